import PyProof.Rows.All
import Wide.All
import OpenK.AllK
import Wide.FinOn
import HandS.ForMost
import HandS.ForExc
import HandS.IsInst
import HandS.Deep
import HandS.TupAny
import HandS.TupMul
import HandS.Flow
import HandS.Style
import HandS.Conv
import HandS.SortInts
import PySem.Challenge.RW_everypurse_k10_moves_of_walkers
set_option Elab.async false
set_option linter.all false
set_option maxRecDepth 100000
set_option maxHeartbeats 400000
/-! The data layer: a def's body by a plain Lean function over data (PyData), the heap hidden.
Part 1: data in a heap, results, the readings of expressions. -/
namespace DL
open PySem PySem.Spec PyProof.Rows L2

/-! ### data in a heap -/
mutual
inductive Rp (S : Hp) : V → PyData → Prop
  | non : Rp S .non .none
  | bl (b : Bool) : Rp S (.bl b) (.bool b)
  | int (i : Int) : Rp S (.int i) (.int i)
  | str (x : Str) : Rp S (.str x) (.str x)
  | lst {a : Addr} {xs : List V} {ds : List PyData} : S a = some (.lst xs) → Rps S xs ds → Rp S (.ref a) (.list ds)
  | tup {a : Addr} {xs : List V} {ds : List PyData} : S a = some (.tup xs) → Rps S xs ds → Rp S (.ref a) (.tuple ds)
inductive Rps (S : Hp) : List V → List PyData → Prop
  | nil : Rps S [] []
  | cons {v : V} {d : PyData} {vs : List V} {ds : List PyData} : Rp S v d → Rps S vs ds → Rps S (v :: vs) (d :: ds)
end

mutual
theorem Rp.mono {S S' : Hp} (h : Same S S') : ∀ {d : PyData} {v : V}, Rp S v d → Rp S' v d
  | _, _, .non => .non
  | _, _, .bl b => .bl b
  | _, _, .int i => .int i
  | _, _, .str x => .str x
  | _, _, .lst e r => .lst (h _ _ e) (Rps.mono h r)
  | _, _, .tup e r => .tup (h _ _ e) (Rps.mono h r)
theorem Rps.mono {S S' : Hp} (h : Same S S') : ∀ {ds : List PyData} {vs : List V}, Rps S vs ds → Rps S' vs ds
  | _, _, .nil => .nil
  | _, _, .cons r t => .cons (Rp.mono h r) (Rps.mono h t)
end
mutual
theorem Rp.dp {K : PySem.W.Frag} {S H : Hp} (h : Same S H) : ∀ {d : PyData} {v : V}, Rp S v d → Dp K H v d
  | _, _, .non => .non
  | _, _, .bl b => .bl b
  | _, _, .int i => .int i
  | _, _, .str x => .str x
  | _, _, .lst e r => .lst (.of (h _ _ e)) (Rps.dp h r)
  | _, _, .tup e r => .tup (.of (h _ _ e)) (Rps.dp h r)
theorem Rps.dp {K : PySem.W.Frag} {S H : Hp} (h : Same S H) : ∀ {ds : List PyData} {vs : List V}, Rps S vs ds → DpAll K H vs ds
  | _, _, .nil => .nil
  | _, _, .cons r t => .cons (Rp.dp h r) (Rps.dp h t)
end
theorem Rps.length {S : Hp} : ∀ {ds : List PyData} {vs : List V}, Rps S vs ds → vs.length = ds.length
  | _, _, .nil => rfl
  | _, _, .cons _ t => by rw [List.length_cons, List.length_cons, Rps.length t]
theorem Rps.get {S : Hp} : ∀ {ds : List PyData} {vs : List V} {i : Nat} {v : V}, Rps S vs ds → vs[i]? = some v → ∃ d, ds[i]? = some d ∧ Rp S v d
  | _, _, _, _, .nil, e => by simp at e
  | _, _, 0, _, .cons r _, e => by simp at e; subst e; exact ⟨_, rfl, r⟩
  | _, _, i + 1, v, .cons _ t, e => by
    obtain ⟨d, h1, h2⟩ := Rps.get (i := i) (v := v) t (by simpa using e)
    exact ⟨d, by simpa using h1, h2⟩
theorem Rps.getD {S : Hp} : ∀ {ds : List PyData} {vs : List V} {i : Nat} {d : PyData}, Rps S vs ds → ds[i]? = some d → ∃ v, vs[i]? = some v ∧ Rp S v d
  | _, _, _, _, .nil, e => by simp at e
  | _, _, 0, _, .cons r _, e => by simp at e; subst e; exact ⟨_, rfl, r⟩
  | _, _, i + 1, v, .cons _ t, e => by
    obtain ⟨d, h1, h2⟩ := Rps.getD (i := i) (d := v) t (by simpa using e)
    exact ⟨d, by simpa using h1, h2⟩
theorem Rps.append {S : Hp} : ∀ {ds es : List PyData} {vs us : List V}, Rps S vs ds → Rps S us es → Rps S (vs ++ us) (ds ++ es)
  | _, _, _, _, .nil, s => s
  | _, _, _, _, .cons r t, s => .cons r (Rps.append t s)
theorem Rps.take {S : Hp} : ∀ {ds : List PyData} {vs : List V} (n : Nat), Rps S vs ds → Rps S (vs.take n) (ds.take n)
  | _, _, 0, _ => by simpa using Rps.nil
  | _, _, _ + 1, .nil => .nil
  | _, _, n + 1, .cons r t => .cons r (Rps.take n t)
theorem Rps.drop {S : Hp} : ∀ {ds : List PyData} {vs : List V} (n : Nat), Rps S vs ds → Rps S (vs.drop n) (ds.drop n)
  | _, _, 0, r => r
  | _, _, _ + 1, .nil => .nil
  | _, _, n + 1, .cons _ t => Rps.drop n t
theorem Rps.set {S : Hp} : ∀ {ds : List PyData} {vs : List V} {v : V} {d : PyData} (i : Nat), Rp S v d → Rps S vs ds → Rps S (vs.set i v) (ds.set i d)
  | _, _, _, _, _, _, .nil => .nil
  | _, _, _, _, 0, r, .cons _ t => .cons r t
  | _, _, _, _, i + 1, r, .cons q t => .cons q (Rps.set i r t)
theorem Rps.reverse {S : Hp} : ∀ {ds : List PyData} {vs : List V}, Rps S vs ds → Rps S vs.reverse ds.reverse
  | _, _, .nil => .nil
  | _, _, .cons r t => by
    rw [List.reverse_cons, List.reverse_cons]
    exact (Rps.reverse t).append (.cons r .nil)
theorem Rps.flatten {S : Hp} {vs : List V} {ds : List PyData} (r : Rps S vs ds) : ∀ n : Nat, Rps S (List.replicate n vs).flatten (List.replicate n ds).flatten
  | 0 => .nil
  | n + 1 => by
    rw [List.replicate_succ, List.replicate_succ, List.flatten_cons, List.flatten_cons]
    exact r.append (Rps.flatten r n)
theorem Rps.ints {S : Hp} : ∀ {ns : List Int} {vs : List V}, Rps S vs (ns.map PyData.int) → vs = ns.map V.int
  | [], _, .nil => rfl
  | n :: ns, _, .cons r t => by
    cases r
    rw [Rps.ints t, List.map_cons]
theorem Rps.of_ints {S : Hp} : ∀ ns : List Int, Rps S (ns.map V.int) (ns.map PyData.int)
  | [] => .nil
  | n :: ns => .cons (.int n) (Rps.of_ints ns)

/-! ### results -/
/-- the draws: the numbers, how many are taken; none: there are none yet -/
abbrev G := Option (List Int × Int)
inductive R (α : Type) where
  | ok (a : α) (g : G)
  /-- the exception of the class n -/
  | ex (n : Nat) (g : G)
  | bad
def R.bind {α β : Type} (r : R α) (f : α → G → R β) : R β := match r with
  | .ok a g => f a g
  | .ex n g => .ex n g
  | .bad => .bad
@[simp] theorem R.bind_ok {α β : Type} (a : α) (g : G) (f : α → G → R β) : (R.ok a g).bind f = f a g := rfl
@[simp] theorem R.bind_ex {α β : Type} (n : Nat) (g : G) (f : α → G → R β) : (R.ex n g : R α).bind f = .ex n g := rfl
@[simp] theorem R.bind_bad {α β : Type} (f : α → G → R β) : (R.bad : R α).bind f = .bad := rfl
def ofO {α : Type} (o : Option α) (g : G) : R α := match o with
  | some a => .ok a g
  | none => .bad
@[simp] theorem ofO_some {α : Type} (a : α) (g : G) : ofO (some a) g = .ok a g := rfl
@[simp] theorem ofO_none {α : Type} (g : G) : ofO (none : Option α) g = .bad := rfl

/-- a thing that one name alone holds, and that may be changed -/
inductive Ob where
  | lst (ds : List PyData)
  | dk (kvs : List (Key × PyData))
  | dt (kvs : List (List Key × PyData))
inductive ObAt (S : Hp) : Ob → HO → Prop
  | lst {ds : List PyData} {vs : List V} : Rps S vs ds → ObAt S (.lst ds) (.lst vs)
  | dk {kvs : List (Key × PyData)} {ws : List (Key × V)} : Paired (fun (p : Key × PyData) (q : Key × V) => p.1 = q.1 ∧ Rp S q.2 p.2) kvs ws → ObAt S (.dk kvs) (.dK ws)
  | dt {kvs : List (List Key × PyData)} {ws : List (List Key × V)} : Paired (fun (p : List Key × PyData) (q : List Key × V) => p.1 = q.1 ∧ Rp S q.2 p.2) kvs ws → ObAt S (.dt kvs) (.dT ws)
theorem ObAt.mono {S S' : Hp} (h : Same S S') {b : Ob} {o : HO} (r : ObAt S b o) : ObAt S' b o := by
  cases r with
  | lst r => exact .lst (r.mono h)
  | dk r => exact .dk (Paired.mapP r fun _ _ z => ⟨z.1, z.2.mono h⟩)
  | dt r => exact .dt (Paired.mapP r fun _ _ z => ⟨z.1, z.2.mono h⟩)
/-- a slot: nothing known; a datum; a thing of its own; the draws; the script -/
inductive Sl where
  | no | sh (d : PyData) | ow (o : Ob) | dr | sc
abbrev Nv := List Sl

/-- the ground of a call: the draws' object, whether it lives, what was shared and what there was at the entry -/
structure Bs where
  A : Addr
  live : Bool
  S : Hp
  H : Hp
  C : Addr
def DrAt (B : Bs) (H S : Hp) : G → Prop
  | none => B.live = false
  | some (ns, i) => B.live = true ∧ ∃ vn, H B.A = some (.lst [vn, .int i]) ∧ Rp S vn (.list (ns.map PyData.int))
structure Fin (B : Bs) (H S : Hp) (g : G) : Prop where
  sub : Same S H
  keep : ∀ a o, B.H a = some o → (B.live = true → a ≠ B.A) → H a = some o
  base : Same B.S S
  new : ∀ a, S a ≠ none → B.S a ≠ none ∨ B.H a = none
  there : ∀ a, B.H a ≠ none → H a ≠ none
  no : B.live = true → S B.A = none
  dr : DrAt B H S g
theorem DrAt.live {B : Bs} {H S : Hp} : ∀ {g : G}, DrAt B H S g → B.live = true → H B.A ≠ none
  | none, h, hl => by rw [show B.live = false from h] at hl; cases hl
  | some (ns, i), h, _ => by obtain ⟨_, vn, e, _⟩ := h; rw [e]; simp
theorem DrAt.mono {B : Bs} {H S H' S' : Hp} (hs : Same S S') (hA : B.live = true → H' B.A = H B.A) : ∀ {g : G}, DrAt B H S g → DrAt B H' S' g
  | none, h => h
  | some (ns, i), h => by obtain ⟨hl, vn, e, r⟩ := h; exact ⟨hl, vn, by rw [hA hl]; exact e, r.mono hs⟩
/-- growth: what stands stays, but the draws' object -/
structure Gr (B : Bs) (H S H' S' : Hp) : Prop where
  keep : ∀ a o, H a = some o → (B.live = true → a ≠ B.A) → H' a = some o
  base : Same S S'
  new : ∀ a, S' a ≠ none → S a ≠ none ∨ H a = none
  there : ∀ a, H a ≠ none → H' a ≠ none
theorem Gr.refl {B : Bs} {H S : Hp} : Gr B H S H S := ⟨fun _ _ h _ => h, Same.refl _, fun _ h => .inl h, fun _ h => h⟩
theorem Gr.trans {B : Bs} {H S H1 S1 H2 S2 : Hp} (a : Gr B H S H1 S1) (b : Gr B H1 S1 H2 S2) : Gr B H S H2 S2 :=
  ⟨fun c o h n => b.keep c o (a.keep c o h n) n, a.base.trans b.base, fun c h => by
    rcases b.new c h with z | z
    · exact a.new c z
    · refine .inr ?_
      cases e : H c with
      | none => rfl
      | some o => exact absurd z (a.there c (by rw [e]; simp)), fun c h => b.there c (a.there c h)⟩
structure Good (B : Bs) (σ : L2.St) (H S : Hp) (ρ : Nv) (g : G) : Prop extends Fin B H S g where
  len : σ.length = ρ.length
  sh : ∀ (i : Nat) (d : PyData), ρ[i]? = some (.sh d) → ∃ v, σ[i]? = some (some v) ∧ Rp S v d
  dw : ∀ (i : Nat), ρ[i]? = some .dr → σ[i]? = some (some (.ref B.A)) ∧ B.live = true
  sw : ∀ (i : Nat), ρ[i]? = some .sc → σ[i]? = some (some (.ref B.C))
  ow : ∀ (i : Nat) (b : Ob), ρ[i]? = some (.ow b) → ∃ a o, σ[i]? = some (some (.ref a)) ∧ S a = none ∧ (B.live = true → a ≠ B.A) ∧ B.H a = none ∧ H a = some o ∧ ObAt S b o
  ap : ∀ (i j : Nat) (b c : Ob) (a : Addr), ρ[i]? = some (.ow b) → ρ[j]? = some (.ow c) → σ[i]? = some (some (.ref a)) → σ[j]? = some (some (.ref a)) → i = j

theorem none_of {B : Bs} {H S H' S' : Hp} (e : Gr B H S H' S') {a : Addr} (h1 : H a ≠ none) (h2 : S a = none) : S' a = none := by
  cases q : S' a with
  | none => rfl
  | some o =>
    rcases e.new a (by rw [q]; simp) with z | z
    · exact absurd h2 z
    · exact absurd z h1
theorem none_back {B : Bs} {H S H' S' : Hp} (e : Gr B H S H' S') {a : Addr} (h : H' a = none) : H a = none := by
  cases q : H a with
  | none => rfl
  | some o => exact absurd h (e.there a (by rw [q]; simp))
section
variable {B : Bs} {σ : L2.St} {H S H' S' H1 S1 : Hp} {ρ : Nv} {g g' g1 : G}
/-- behind growth -/
theorem Good.grow (I : Good B σ H S ρ g) (e : Gr B H S H' S') (sub : Same S' H') (dr : DrAt B H' S' g') : Good B σ H' S' ρ g' := by
  refine ⟨⟨sub, fun a o h n => e.keep a o (I.keep a o h n) n, I.base.trans e.base, fun a h => ?_, fun a h => e.there a (I.there a h), fun hl => none_of e (I.dr.live hl) (I.no hl), dr⟩, I.len, fun i d h => ?_, I.dw, I.sw, fun i b h => ?_, I.ap⟩
  · rcases e.new a h with z | z
    · exact I.new a z
    · refine .inr ?_
      cases q : B.H a with
      | none => rfl
      | some o => exact absurd z (I.there a (by rw [q]; simp))
  · obtain ⟨v, h1, h2⟩ := I.sh i d h
    exact ⟨v, h1, h2.mono e.base⟩
  · obtain ⟨a, o, h1, h2, h3, h4, h5, h6⟩ := I.ow i b h
    exact ⟨a, o, h1, none_of e (by rw [h5]; simp) h2, h3, h4, e.keep a o h5 h3, h6.mono e.base⟩
theorem Good.stay (I : Good B σ H S ρ g) {p : Addr} (hp : H p = none) : S p = none := by
  cases q : S p with
  | none => rfl
  | some u => rw [I.sub _ _ q] at hp; cases hp
theorem Good.neA (I : Good B σ H S ρ g) {p : Addr} (hp : H p = none) : B.live = true → B.A ≠ p := fun hl z => I.dr.live hl (by rw [z]; exact hp)
/-- a new shared object -/
theorem Good.alloc (I : Good B σ H S ρ g) {p : Addr} {o : HO} (hp : H p = none) : Good B σ (upd H p o) (upd S p o) ρ g ∧ Gr B H S (upd H p o) (upd S p o) := by
  have hs : S p = none := I.stay hp
  have e : Gr B H S (upd H p o) (upd S p o) := by
    refine ⟨fun a u h _ => by rw [upd_ne (ne_of_none h hp)]; exact h, fun a u h => by rw [upd_ne (ne_of_none h hs)]; exact h, fun a h => ?_, fun a h => ?_⟩
    · by_cases ha : a = p
      · subst ha; exact .inr hp
      · rw [upd_ne ha] at h; exact .inl h
    · by_cases ha : a = p
      · subst ha; rw [upd_same]; simp
      · rw [upd_ne ha]; exact h
  refine ⟨I.grow e (fun a u h => ?_) (I.dr.mono e.base fun hl => upd_ne (I.neA hp hl)), e⟩
  by_cases ha : a = p
  · subst ha; rw [upd_same] at h ⊢; exact h
  · rw [upd_ne ha] at h ⊢; exact I.sub _ _ h
/-- a new object that is not shared -/
theorem Good.allocO (I : Good B σ H S ρ g) {p : Addr} {o : HO} (hp : H p = none) : Good B σ (upd H p o) S ρ g ∧ Gr B H S (upd H p o) S := by
  have e : Gr B H S (upd H p o) S := by
    refine ⟨fun a u h _ => by rw [upd_ne (ne_of_none h hp)]; exact h, fun a u h => h, fun a h => .inl h, fun a h => ?_⟩
    by_cases ha : a = p
    · subst ha; rw [upd_same]; simp
    · rw [upd_ne ha]; exact h
  exact ⟨I.grow e (fun a u h => by rw [upd_ne (ne_of_none (I.sub _ _ h) hp)]; exact I.sub _ _ h) (I.dr.mono e.base fun hl => upd_ne (I.neA hp hl)), e⟩
/-- a thing that nobody else holds becomes shared -/
theorem Good.share (I : Good B σ H S ρ g) (I1 : Good B σ H1 S1 ρ g1) (e : Gr B H S H1 S1) {a : Addr} {o : HO} (n1 : S1 a = none) (n2 : H a = none) (ho : H1 a = some o) : Good B σ H1 (upd S1 a o) ρ g1 ∧ Gr B H S H1 (upd S1 a o) := by
  have sm : Same S1 (upd S1 a o) := fun c u q => by rw [upd_ne (ne_of_none q n1)]; exact q
  have na : B.live = true → B.A ≠ a := I.neA n2
  refine ⟨⟨⟨fun c u q => ?_, I1.keep, I1.base.trans sm, fun c hc => ?_, I1.there, fun hl => by rw [upd_ne (na hl)]; exact I1.no hl, I1.dr.mono sm fun _ => rfl⟩, I1.len, fun i d h => ?_, I1.dw, I1.sw, fun i b h => ?_, I1.ap⟩, ⟨e.keep, e.base.trans sm, fun c hc => ?_, e.there⟩⟩
  · by_cases hca : c = a
    · subst hca; rw [upd_same] at q; rw [← q]; exact ho
    · rw [upd_ne hca] at q; exact I1.sub _ _ q
  · by_cases hca : c = a
    · subst hca
      refine .inr ?_
      cases q : B.H c with
      | none => rfl
      | some u => exact absurd n2 (I.there c (by rw [q]; simp))
    · rw [upd_ne hca] at hc; exact I1.new c hc
  · obtain ⟨v, h1, h2⟩ := I1.sh i d h
    exact ⟨v, h1, h2.mono sm⟩
  · obtain ⟨c, u, h1, h2, h3, h4, h5, h6⟩ := I1.ow i b h
    obtain ⟨c', u', k1, _, _, _, k5, _⟩ := I.ow i b h
    have ec : c' = c := by
      rw [h1] at k1
      injection k1 with k1
      injection k1 with k1
      injection k1 with k1
      exact k1.symm
    subst ec
    have hca : c' ≠ a := fun z => by rw [z, n2] at k5; cases k5
    exact ⟨c', u, h1, by rw [upd_ne hca]; exact h2, h3, h4, h5, h6.mono sm⟩
  · by_cases hca : c = a
    · subst hca; exact .inr n2
    · rw [upd_ne hca] at hc; exact e.new c hc
end

/-! ### the readings by data -/
abbrev Ex := Nv → G → R PyData
abbrev Te := Nv → G → R Bool
abbrev Ar := Nv → G → R (List PyData)
abbrev Ow := Nv → G → R Ob
section
variable (cls : Nat → Value) (W : WX)
def EO (B : Bs) (σ : L2.St) (H S : Hp) (ρ : Nv) (Q : VK) : R PyData → Prop
  | .ok d g' => ∀ v H' S', Good B σ H' S' ρ g' → Gr B H S H' S' → Rp S' v d → Q v H'
  | .ex n g' => ∀ H' S', Good B σ H' S' ρ g' → Gr B H S H' S' → W (cls n) none σ H'
  | .bad => False
def TO (B : Bs) (σ : L2.St) (H S : Hp) (ρ : Nv) (Q : Bool → Hp → Prop) : R Bool → Prop
  | .ok b g' => ∀ H' S', Good B σ H' S' ρ g' → Gr B H S H' S' → Q b H'
  | .ex n g' => ∀ H' S', Good B σ H' S' ρ g' → Gr B H S H' S' → W (cls n) none σ H'
  | .bad => False
def AO (B : Bs) (σ : L2.St) (H S : Hp) (ρ : Nv) (Q : List V → Hp → Prop) : R (List PyData) → Prop
  | .ok ds g' => ∀ vs H' S', Good B σ H' S' ρ g' → Gr B H S H' S' → Rps S' vs ds → Q vs H'
  | .ex n g' => ∀ H' S', Good B σ H' S' ρ g' → Gr B H S H' S' → W (cls n) none σ H'
  | .bad => False
/-- a new thing that nobody else holds -/
def OO (B : Bs) (σ : L2.St) (H S : Hp) (ρ : Nv) (Q : VK) : R Ob → Prop
  | .ok b g' => ∀ a o H' S', Good B σ H' S' ρ g' → Gr B H S H' S' → S' a = none → H a = none → H' a = some o → ObAt S' b o → Q (.ref a) H'
  | .ex n g' => ∀ H' S', Good B σ H' S' ρ g' → Gr B H S H' S' → W (cls n) none σ H'
  | .bad => False
def tE (f : Ex) : TE := fun σ H Q => ∃ B S ρ g, Good B σ H S ρ g ∧ EO cls W B σ H S ρ Q (f ρ g)
def tT (f : Te) : TT := fun σ H Q => ∃ B S ρ g, Good B σ H S ρ g ∧ TO cls W B σ H S ρ Q (f ρ g)
def tA (f : Ar) : TA := fun σ H Q => ∃ B S ρ g, Good B σ H S ρ g ∧ AO cls W B σ H S ρ Q (f ρ g)
/-- the first argument is the draws, in slot i -/
def tAG (i : Nat) (f : Ar) : TA := fun σ H Q => ∃ B S ρ g, Good B σ H S ρ g ∧ ρ[i]? = some .dr ∧ AO cls W B σ H S ρ (fun vs H' => Q (.ref B.A :: vs) H') (f ρ g)
def tO (f : Ow) : TE := fun σ H Q => ∃ B S ρ g, Good B σ H S ρ g ∧ OO cls W B σ H S ρ Q (f ρ g)
end

section
variable {X : Cx}
theorem PE_imp {e : Expr} {t t' : TE} (h : PE X e t) (hi : ∀ σ H Q, t' σ H Q → t σ H Q) : PE X e t' := ⟨fun pins s σ H Q I q => h.run pins s σ H Q I (hi _ _ _ q)⟩
theorem PT_imp {e : Expr} {t t' : TT} (h : PT X e t) (hi : ∀ σ H Q, t' σ H Q → t σ H Q) : PT X e t' := ⟨fun pins s σ H Q I q => h.run pins s σ H Q I (hi _ _ _ q)⟩
theorem PW_imp {e : Expr} {t t' : TT} (h : PW X e t) (hi : ∀ σ H Q, t' σ H Q → t σ H Q) : PW X e t' := ⟨fun wh pins s σ H Q I q => h.run wh pins s σ H Q I (hi _ _ _ q)⟩
theorem PA_imp {es : List Expr} {t t' : TA} (h : PA X es t) (hi : ∀ σ H Q, t' σ H Q → t σ H Q) : PA X es t' := ⟨fun pos pins s σ H Q I q => h.run pos pins s σ H Q I (hi _ _ _ q)⟩
theorem PS_imp {e : Stmt} {t t' : TS} (h : PS X e t) (hi : ∀ D σ H, t' D σ H → t D σ H) : PS X e t' := ⟨fun pins s σ H D I q => h.run pins s σ H D I (hi _ _ _ q)⟩
theorem PSs_imp {e : List Stmt} {t t' : TS} (h : PSs X e t) (hi : ∀ D σ H, t' D σ H → t D σ H) : PSs X e t' := ⟨fun pins s σ H D I q => h.run pins s σ H D I (hi _ _ _ q)⟩
end

/-! ### the mirrors of expressions -/
@[simp] def constD (d : PyData) : Ex := fun _ g => .ok d g
@[simp] def varD (i : Nat) : Ex := fun ρ g => match ρ[i]? with
  | some (.sh d) => .ok d g
  | _ => .bad
@[simp] def opD (op : PyData → PyData → Option PyData) (a b : Ex) : Ex := fun ρ g => (a ρ g).bind fun x g1 => (b ρ g1).bind fun y g2 => ofO (op x y) g2
@[simp] def unD (op : PyData → Option PyData) (a : Ex) : Ex := fun ρ g => (a ρ g).bind fun x g1 => ofO (op x) g1
@[simp] def nilD : Ar := fun _ g => .ok [] g
@[simp] def consD (a : Ex) (r : Ar) : Ar := fun ρ g => (a ρ g).bind fun x g1 => (r ρ g1).bind fun xs g2 => .ok (x :: xs) g2

section
variable {X : Cx} {cls : Nat → Value} {W : WX} {pos : Pos}

/-- one part behind another -/
theorem EO_bind {B : Bs} {σ : L2.St} {H S : Hp} {ρ : Nv} {Q : VK} {α : Type} {r : R α} {f : α → G → R PyData} (P : α → Hp → Hp → G → Prop)
    (h : EO cls W B σ H S ρ Q (r.bind f)) : match r with
    | .ok a g => EO cls W B σ H S ρ Q (f a g)
    | .ex n g => ∀ H' S', Good B σ H' S' ρ g → Gr B H S H' S' → W (cls n) none σ H'
    | .bad => False := by
  cases r with
  | ok a g => exact h
  | ex n g => exact h
  | bad => exact h

theorem EO_gr {B : Bs} {σ : L2.St} {H S H1 S1 : Hp} {ρ : Nv} {Q : VK} {r : R PyData} (e : Gr B H S H1 S1) (h : EO cls W B σ H S ρ Q r) : EO cls W B σ H1 S1 ρ Q r := by
  cases r with
  | ok a g => exact fun v H' S' I u d => h v H' S' I (e.trans u) d
  | ex n g => exact fun H' S' I u => h H' S' I (e.trans u)
  | bad => exact h
theorem TO_gr {B : Bs} {σ : L2.St} {H S H1 S1 : Hp} {ρ : Nv} {Q : Bool → Hp → Prop} {r : R Bool} (e : Gr B H S H1 S1) (h : TO cls W B σ H S ρ Q r) : TO cls W B σ H1 S1 ρ Q r := by
  cases r with
  | ok a g => exact fun H' S' I u => h H' S' I (e.trans u)
  | ex n g => exact fun H' S' I u => h H' S' I (e.trans u)
  | bad => exact h
theorem AO_gr {B : Bs} {σ : L2.St} {H S H1 S1 : Hp} {ρ : Nv} {Q : List V → Hp → Prop} {r : R (List PyData)} (e : Gr B H S H1 S1) (h : AO cls W B σ H S ρ Q r) : AO cls W B σ H1 S1 ρ Q r := by
  cases r with
  | ok a g => exact fun v H' S' I u d => h v H' S' I (e.trans u) d
  | ex n g => exact fun H' S' I u => h H' S' I (e.trans u)
  | bad => exact h
theorem OO_gr {B : Bs} {σ : L2.St} {H S H1 S1 : Hp} {ρ : Nv} {Q : VK} {r : R Ob} (e : Gr B H S H1 S1) (h : OO cls W B σ H S ρ Q r) : OO cls W B σ H1 S1 ρ Q r := by
  cases r with
  | ok a g => exact fun v o H' S' I u n1 n2 d f => h v o H' S' I (e.trans u) n1 (none_back e n2) d f
  | ex n g => exact fun H' S' I u => h H' S' I (e.trans u)
  | bad => exact h

theorem pd_const {e : Expr} {v : V} {d : PyData} (he : PE X e (tC v)) (r : ∀ S, Rp S v d) : PE X e (tE cls W (constD d)) :=
  PE_imp he fun σ H Q ⟨B, S, ρ, g, I, h⟩ => h v H S I .refl (r S)
theorem pd_int {i j pos} : PE X (.Constant (.int i) j pos) (tE cls W (constD (.int i))) := pd_const pe_int fun _ => .int i
theorem pd_bl {i j pos} : PE X (.Constant (.bool i) j pos) (tE cls W (constD (.bool i))) := pd_const pe_bl fun _ => .bl i
theorem pd_non {j pos} : PE X (.Constant .none j pos) (tE cls W (constD .none)) := pd_const pe_non fun _ => .non
theorem pd_str {x j pos} : PE X (.Constant (.str x) j pos) (tE cls W (constD (.str x))) := pd_const pe_str fun _ => .str x
theorem pd_globI {x : Str} {i : Int} (hm : ∃ t, X.mg x = some (.int i t)) (hg : Gl X x := by rfl) (hd : (x == ("__debug__" : Str)) = false := by decide) : PE X (.Name x pos) (tE cls W (constD (.int i))) := by
  obtain ⟨t, hm⟩ := hm
  exact pd_const (v := .int i) (pe_glob hg hm ⟨t, rfl⟩ hd) fun _ => .int i
theorem pd_var (i : Nat) {x : Str} (hN : X.N[i]? = some x := by rfl) (hv : Vis X.env.scope x := by first | exact Or.inl rfl | exact Or.inr (Or.inl rfl) | exact Or.inr (Or.inr rfl)) (hd : (x == ("__debug__" : Str)) = false := by decide)
    (hcd : (x == ("__classdict__" : Str)) = false := by decide) : PE X (.Name x pos) (tE cls W (varD i)) :=
  PE_imp (pe_var hN hv hd hcd) fun σ H Q ⟨B, S, ρ, g, I, h⟩ => by
    unfold varD at h
    cases e : ρ[i]? with
    | none => rw [e] at h; exact False.elim h
    | some z =>
      rw [e] at h
      cases z with
      | sh d =>
        obtain ⟨v, h1, h2⟩ := I.sh i d e
        exact ⟨v, h1, h v H S I .refl h2⟩
      | no => exact False.elim h
      | ow _ => exact False.elim h
      | dr => exact False.elim h
      | sc => exact False.elim h

/-- what an operator's rule must say of data -/
def Spec2 (r : R2) (op : PyData → PyData → Option PyData) : Prop := ∀ (B : Bs) (σ : L2.St) (H S : Hp) (ρ : Nv) (g : G) (x y d : PyData) (v u : V) (Q : VK), op x y = some d → Good B σ H S ρ g → Rp S v x → Rp S u y →
  (∀ w H' S', Good B σ H' S' ρ g → Gr B H S H' S' → Rp S' w d → Q w H') → r v u H Q
theorem op_of {r : R2} {op : PyData → PyData → Option PyData} {fa fb : Ex} (sp : Spec2 r op) (σ : L2.St) (H : Hp) (Q : VK) (h : tE cls W (opD op fa fb) σ H Q) : tOp r (tE cls W fa) (tE cls W fb) σ H Q := by
  obtain ⟨B, S, ρ, g, I, h⟩ := h
  unfold opD at h
  refine ⟨B, S, ρ, g, I, ?_⟩
  cases ea : fa ρ g with
  | bad => rw [ea] at h; exact h
  | ex n g1 => rw [ea] at h; exact h
  | ok x g1 =>
    rw [ea] at h
    intro v H1 S1 I1 e1 r1
    refine ⟨B, S1, ρ, g1, I1, ?_⟩
    have h' := EO_gr e1 h
    simp only [R.bind_ok] at h'
    cases eb : fb ρ g1 with
    | bad => rw [eb] at h'; exact h'
    | ex n g2 => rw [eb] at h'; exact h'
    | ok y g2 =>
      rw [eb] at h'
      simp only [R.bind_ok] at h'
      intro u H2 S2 I2 e2 r2
      have h2 := EO_gr e2 h'
      cases eo : op x y with
      | none => rw [eo] at h2; exact False.elim h2
      | some d =>
        rw [eo] at h2
        exact sp B σ H2 S2 ρ g2 x y d v u Q eo I2 (r1.mono e2.base) r2 h2
theorem pd_bin {a b : Expr} {op : Operator} {r : R2} {o : PyData → PyData → Option PyData} {fa fb : Ex} (ho : OpR X (binaryOp op) r) (sp : Spec2 r o) (ha : PE X a (tE cls W fa)) (hb : PE X b (tE cls W fb)) :
    PE X (.BinOp a op b pos) (tE cls W (opD o fa fb)) := PE_imp (pe_op ho ha hb) (op_of sp)
theorem pd_cmpO {a b : Expr} {op : CmpOp} {r : R2} {o : PyData → PyData → Option PyData} {fa fb : Ex} (ho : OpR X (compareOp op) r) (sp : Spec2 r o) (ha : PE X a (tE cls W fa)) (hb : PE X b (tE cls W fb)) (hm : behindInMarks op b = false) :
    PE X (.Compare a [op] [b] pos) (tE cls W (opD o fa fb)) := PE_imp (pe_cmpR ho ha hb hm) (op_of sp)
/-- a value's truth -/
@[simp] def truD : PyData → Option Bool
  | .none => some false
  | .bool b => some b
  | .int i => some (i != 0)
  | .list ds => some (!ds.isEmpty)
  | .tuple ds => some (!ds.isEmpty)
  | _ => none
@[simp] def boolD (f : Ex) : Te := fun ρ g => (f ρ g).bind fun d g1 => match d with
  | .bool b => .ok b g1
  | _ => .bad
@[simp] def truthD (f : Ex) : Te := fun ρ g => (f ρ g).bind fun d g1 => ofO (truD d) g1
theorem boolD_of {f : Ex} (σ : L2.St) (H : Hp) (Q : Bool → Hp → Prop) (h : tT cls W (boolD f) σ H Q) : tE cls W f σ H (fun x H' => ∃ k, x = .bl k ∧ Q k H') := by
  obtain ⟨B, S, ρ, g, I, h⟩ := h
  unfold boolD at h
  refine ⟨B, S, ρ, g, I, ?_⟩
  cases ea : f ρ g with
  | bad => rw [ea] at h; exact h
  | ex n g1 => rw [ea] at h; exact h
  | ok x g1 =>
    rw [ea] at h
    intro v H1 S1 I1 e1 r1
    cases r1 with
    | bl b => exact ⟨b, rfl, h H1 S1 I1 e1⟩
    | non => exact False.elim h
    | int i => exact False.elim h
    | str i => exact False.elim h
    | lst _ _ => exact False.elim h
    | tup _ _ => exact False.elim h
theorem ptd_cmpO {a b : Expr} {op : CmpOp} {r : R2} {o : PyData → PyData → Option PyData} {fa fb : Ex} (ho : OpR X (compareOp op) r) (sp : Spec2 r o) (ha : PE X a (tE cls W fa)) (hb : PE X b (tE cls W fb)) (hm : behindInMarks op b = false) :
    PT X (.Compare a [op] [b] pos) (tT cls W (boolD (opD o fa fb))) := PT_imp (pt_cmpR ho ha hb hm) fun σ H Q h => op_of sp σ H _ (boolD_of σ H Q h)
theorem Rps.isEmpty {S : Hp} {vs : List V} {ds : List PyData} (r : Rps S vs ds) : vs.isEmpty = ds.isEmpty := by
  cases r <;> rfl
theorem truV_of {K : PySem.W.Frag} {S H : Hp} {v : V} {d : PyData} {k : Bool} (r : Rp S v d) (s : Same S H) (e : truD d = some k) : TruV K v H k := by
  cases r with
  | non => exact (Option.some.inj e).symm
  | bl b => exact (Option.some.inj e).symm
  | int i => exact (Option.some.inj e).symm
  | str x => cases e
  | lst h q => exact .inl ⟨_, .of (s _ _ h), by rw [q.isEmpty]; exact (Option.some.inj e).symm⟩
  | tup h q => exact .inr (.inl ⟨_, .of (s _ _ h), by rw [q.isEmpty]; exact (Option.some.inj e).symm⟩)
theorem truthD_of {K : PySem.W.Frag} {f : Ex} (σ : L2.St) (H : Hp) (Q : Bool → Hp → Prop) (h : tT cls W (truthD f) σ H Q) : tE cls W f σ H (fun x H' => ∃ k, TruV K x H' k ∧ Q k H') := by
  obtain ⟨B, S, ρ, g, I, h⟩ := h
  unfold truthD at h
  refine ⟨B, S, ρ, g, I, ?_⟩
  cases ea : f ρ g with
  | bad => rw [ea] at h; exact h
  | ex n g1 => rw [ea] at h; exact h
  | ok x g1 =>
    rw [ea] at h
    intro v H1 S1 I1 e1 r1
    simp only [R.bind_ok] at h
    cases et : truD x with
    | none => rw [et] at h; exact False.elim h
    | some b =>
      rw [et] at h
      exact ⟨b, truV_of r1 I1.sub et, h H1 S1 I1 e1⟩
theorem ptd_val {a : Expr} {f : Ex} (ha : PE X a (tE cls W f)) (he : ∀ whole, isTrue a X.env whole = (do let v ← whole; standAt a.pos; holding [v] (truthy v)) := by intro _; rfl) : PT X a (tT cls W (truthD f)) :=
  PT_imp (pt_truth ha he) fun σ H Q h => truthD_of σ H Q h

/-! ### and, or, not -/
@[simp] def andT (a b : Te) : Te := fun ρ g => (a ρ g).bind fun x g1 => if x = true then b ρ g1 else .ok false g1
@[simp] def orT (a b : Te) : Te := fun ρ g => (a ρ g).bind fun x g1 => if x = true then .ok true g1 else b ρ g1
@[simp] def notT (a : Te) : Te := fun ρ g => (a ρ g).bind fun x g1 => .ok (!x) g1
variable {a b : Expr} {rest : List Expr} {fa fb : Te}
theorem pwd_and1 (ha : PT X a (tT cls W fa)) : PW X (.BoolOp .And [a] pos) (tT cls W fa) := pw_and1 ha
theorem pwd_or1 (ha : PT X a (tT cls W fa)) : PW X (.BoolOp .Or [a] pos) (tT cls W fa) := pw_or1 ha
theorem pwd_and (ha : PT X a (tT cls W fa)) (hb : PW X (.BoolOp .And (b :: rest) pos) (tT cls W fb)) : PW X (.BoolOp .And (a :: b :: rest) pos) (tT cls W (andT fa fb)) :=
  PW_imp (pw_and ha hb) fun σ H Q ⟨B, S, ρ, g, I, h⟩ => by
    unfold andT at h
    refine ⟨B, S, ρ, g, I, ?_⟩
    cases ea : fa ρ g with
    | bad => rw [ea] at h; exact h
    | ex n g1 => rw [ea] at h; exact h
    | ok x g1 =>
      rw [ea] at h
      intro H1 S1 I1 e1
      cases x with
      | true => exact ⟨B, S1, ρ, g1, I1, TO_gr e1 h⟩
      | false => exact h H1 S1 I1 e1
theorem pwd_or (ha : PT X a (tT cls W fa)) (hb : PW X (.BoolOp .Or (b :: rest) pos) (tT cls W fb)) : PW X (.BoolOp .Or (a :: b :: rest) pos) (tT cls W (orT fa fb)) :=
  PW_imp (pw_or ha hb) fun σ H Q ⟨B, S, ρ, g, I, h⟩ => by
    unfold orT at h
    refine ⟨B, S, ρ, g, I, ?_⟩
    cases ea : fa ρ g with
    | bad => rw [ea] at h; exact h
    | ex n g1 => rw [ea] at h; exact h
    | ok x g1 =>
      rw [ea] at h
      intro H1 S1 I1 e1
      cases x with
      | false => exact ⟨B, S1, ρ, g1, I1, TO_gr e1 h⟩
      | true => exact h H1 S1 I1 e1
theorem ptd_not (ha : PT X a (tT cls W fa)) : PT X (.UnaryOp .Not a pos) (tT cls W (notT fa)) :=
  PT_imp (pt_not ha) fun σ H Q ⟨B, S, ρ, g, I, h⟩ => by
    unfold notT at h
    refine ⟨B, S, ρ, g, I, ?_⟩
    cases ea : fa ρ g with
    | bad => rw [ea] at h; exact h
    | ex n g1 => rw [ea] at h; exact h
    | ok x g1 => rw [ea] at h; exact h
/-- as values -/
@[simp] def andV (a b : Ex) : Ex := fun ρ g => (a ρ g).bind fun x g1 => (ofO (truD x) g1).bind fun k g2 => if k = true then b ρ g2 else .ok x g2
@[simp] def orV (a b : Ex) : Ex := fun ρ g => (a ρ g).bind fun x g1 => (ofO (truD x) g1).bind fun k g2 => if k = true then .ok x g2 else b ρ g2
@[simp] def notV (a : Ex) : Ex := fun ρ g => (a ρ g).bind fun x g1 => (ofO (truD x) g1).bind fun k g2 => .ok (.bool (!k)) g2
variable {va vb : Ex}
theorem pd_one {op} (h : PE X a (tE cls W va)) : PE X (.BoolOp op [a] pos) (tE cls W va) := pe_one h
theorem pd_and (ha : PE X a (tE cls W va)) (hb : PE X (.BoolOp .And (b :: rest) pos) (tE cls W vb)) : PE X (.BoolOp .And (a :: b :: rest) pos) (tE cls W (andV va vb)) :=
  PE_imp (pe_andT ha hb) fun σ H Q ⟨B, S, ρ, g, I, h⟩ => by
    unfold andV at h
    refine ⟨B, S, ρ, g, I, ?_⟩
    cases ea : va ρ g with
    | bad => rw [ea] at h; exact h
    | ex n g1 => rw [ea] at h; exact h
    | ok x g1 =>
      rw [ea] at h
      intro v H1 S1 I1 e1 r1
      simp only [R.bind_ok] at h
      cases et : truD x with
      | none => rw [et] at h; exact False.elim h
      | some k =>
        rw [et] at h
        refine ⟨k, truV_of r1 I1.sub et, ?_⟩
        cases k with
        | true => exact ⟨B, S1, ρ, g1, I1, EO_gr e1 h⟩
        | false => exact h v H1 S1 I1 e1 r1
theorem pd_or (ha : PE X a (tE cls W va)) (hb : PE X (.BoolOp .Or (b :: rest) pos) (tE cls W vb)) : PE X (.BoolOp .Or (a :: b :: rest) pos) (tE cls W (orV va vb)) :=
  PE_imp (pe_orT ha hb) fun σ H Q ⟨B, S, ρ, g, I, h⟩ => by
    unfold orV at h
    refine ⟨B, S, ρ, g, I, ?_⟩
    cases ea : va ρ g with
    | bad => rw [ea] at h; exact h
    | ex n g1 => rw [ea] at h; exact h
    | ok x g1 =>
      rw [ea] at h
      intro v H1 S1 I1 e1 r1
      simp only [R.bind_ok] at h
      cases et : truD x with
      | none => rw [et] at h; exact False.elim h
      | some k =>
        rw [et] at h
        refine ⟨k, truV_of r1 I1.sub et, ?_⟩
        cases k with
        | false => exact ⟨B, S1, ρ, g1, I1, EO_gr e1 h⟩
        | true => exact h v H1 S1 I1 e1 r1
theorem pd_not (ha : PE X a (tE cls W va)) : PE X (.UnaryOp .Not a pos) (tE cls W (notV va)) :=
  PE_imp (pe_notT ha) fun σ H Q ⟨B, S, ρ, g, I, h⟩ => by
    unfold notV at h
    refine ⟨B, S, ρ, g, I, ?_⟩
    cases ea : va ρ g with
    | bad => rw [ea] at h; exact h
    | ex n g1 => rw [ea] at h; exact h
    | ok x g1 =>
      rw [ea] at h
      intro v H1 S1 I1 e1 r1
      simp only [R.bind_ok] at h
      cases et : truD x with
      | none => rw [et] at h; exact False.elim h
      | some k =>
        rw [et] at h
        exact ⟨k, truV_of r1 I1.sub et, h _ H1 S1 I1 e1 (.bl _)⟩
@[simp] def ifD (t : Te) (a b : Ex) : Ex := fun ρ g => (t ρ g).bind fun k g1 => if k = true then a ρ g1 else b ρ g1
theorem pd_if {c : Expr} (hc : PT X c (tT cls W fa)) (ha : PE X a (tE cls W va)) (hb : PE X b (tE cls W vb)) : PE X (.IfExp c a b pos) (tE cls W (ifD fa va vb)) :=
  PE_imp (pe_ifExp hc ha hb) fun σ H Q ⟨B, S, ρ, g, I, h⟩ => by
    unfold ifD at h
    refine ⟨B, S, ρ, g, I, ?_⟩
    cases ea : fa ρ g with
    | bad => rw [ea] at h; exact h
    | ex n g1 => rw [ea] at h; exact h
    | ok k g1 =>
      rw [ea] at h
      intro H1 S1 I1 e1
      cases k with
      | true => exact ⟨B, S1, ρ, g1, I1, EO_gr e1 h⟩
      | false => exact ⟨B, S1, ρ, g1, I1, EO_gr e1 h⟩

/-! ### argument lists, displays -/
variable {es : List Expr} {e : Expr} {ra : Ar}
theorem pad_nil : PA X [] (tA cls W nilD) := PA_imp pa_nil fun σ H Q ⟨B, S, ρ, g, I, h⟩ => h [] H S I .refl .nil
theorem consD_of (σ : L2.St) (H : Hp) (Q : List V → Hp → Prop) (h : tA cls W (consD va ra) σ H Q) : tCons (tE cls W va) (tA cls W ra) σ H Q := by
  obtain ⟨B, S, ρ, g, I, h⟩ := h
  unfold consD at h
  refine ⟨B, S, ρ, g, I, ?_⟩
  cases ea : va ρ g with
  | bad => rw [ea] at h; exact h
  | ex n g1 => rw [ea] at h; exact h
  | ok x g1 =>
    rw [ea] at h
    intro v H1 S1 I1 e1 r1
    refine ⟨B, S1, ρ, g1, I1, ?_⟩
    have h' := AO_gr e1 h
    simp only [R.bind_ok] at h'
    cases eb : ra ρ g1 with
    | bad => rw [eb] at h'; exact h'
    | ex n g2 => rw [eb] at h'; exact h'
    | ok y g2 =>
      rw [eb] at h'
      intro u H2 S2 I2 e2 r2
      exact h' (v :: u) H2 S2 I2 e2 (.cons (r1.mono e2.base) r2)
theorem pad_cons (ha : PE X e (tE cls W va)) (hr : PA X es (tA cls W ra)) (hs : starEach (e :: es) X.env = (false, eval e X.env) :: starEach es X.env := by rfl) : PA X (e :: es) (tA cls W (consD va ra)) :=
  PA_imp (pa_cons ha hr hs) consD_of
@[simp] def tupD (r : Ar) : Ex := fun ρ g => (r ρ g).bind fun ds g1 => if ds.length ≤ 1000 then .ok (.tuple ds) g1 else .bad
theorem line1000 {n : Nat} (h : n ≤ 1000) : n ≤ sizeLine := Nat.le_of_lt (small1000 h)
theorem pd_tup {x1} (h : PA X es (tA cls W ra)) : PE X (.Tuple es x1 pos) (tE cls W (tupD ra)) :=
  PE_imp (pe_tup h) fun σ H Q ⟨B, S, ρ, g, I, h⟩ => by
    unfold tupD at h
    refine ⟨B, S, ρ, g, I, ?_⟩
    cases ea : ra ρ g with
    | bad => rw [ea] at h; exact h
    | ex n g1 => rw [ea] at h; exact h
    | ok ds g1 =>
      rw [ea] at h
      intro vs H1 S1 I1 e1 r1
      simp only [R.bind_ok] at h
      by_cases hz : ds.length ≤ 1000
      · rw [if_pos hz] at h
        refine ⟨line1000 (by rw [r1.length]; exact hz), fun p hp => ?_⟩
        obtain ⟨I2, e2⟩ := I1.alloc (o := .tup vs) hp
        exact h _ _ _ I2 (e1.trans e2) (.tup upd_same (r1.mono e2.base))
      · rw [if_neg hz] at h
        exact False.elim h
@[simp] def lstO (r : Ar) : Ow := fun ρ g => (r ρ g).bind fun ds g1 => if ds.length ≤ 1000 then .ok (.lst ds) g1 else .bad
theorem po_lst (h : PA X es (tA cls W ra)) : PE X (.List es pos) (tO cls W (lstO ra)) :=
  PE_imp (pe_lst h) fun σ H Q ⟨B, S, ρ, g, I, h⟩ => by
    unfold lstO at h
    refine ⟨B, S, ρ, g, I, ?_⟩
    cases ea : ra ρ g with
    | bad => rw [ea] at h; exact h
    | ex n g1 => rw [ea] at h; exact h
    | ok ds g1 =>
      rw [ea] at h
      intro vs H1 S1 I1 e1 r1
      simp only [R.bind_ok] at h
      by_cases hz : ds.length ≤ 1000
      · rw [if_pos hz] at h
        refine ⟨line1000 (by rw [r1.length]; exact hz), fun p hp => ?_⟩
        obtain ⟨I2, e2⟩ := I1.allocO (o := .lst vs) hp
        exact h p (.lst vs) _ _ I2 (e1.trans e2) (I1.stay hp) (none_back e1 hp) upd_same (.lst r1)
      · rw [if_neg hz] at h
        exact False.elim h
/-- a new thing becomes a datum -/
@[simp] def shareO (f : Ow) : Ex := fun ρ g => (f ρ g).bind fun b g1 => match b with
  | .lst ds => .ok (.list ds) g1
  | _ => .bad
theorem pd_share {f : Ow} (h : PE X e (tO cls W f)) : PE X e (tE cls W (shareO f)) :=
  PE_imp h fun σ H Q ⟨B, S, ρ, g, I, h⟩ => by
    unfold shareO at h
    refine ⟨B, S, ρ, g, I, ?_⟩
    cases ea : f ρ g with
    | bad => rw [ea] at h; exact h
    | ex n g1 => rw [ea] at h; exact h
    | ok b g1 =>
      rw [ea] at h
      intro a o H1 S1 I1 e1 n1 n2 ho hb
      obtain ⟨I2, e2⟩ := I.share I1 e1 n1 n2 ho
      cases hb with
      | dk _ => exact False.elim h
      | dt _ => exact False.elim h
      | lst r => exact h _ _ _ I2 e2 (.lst upd_same (r.mono fun c u q => by rw [upd_ne (ne_of_none q n1)]; exact q))
end
end DL

set_option Elab.async false
set_option linter.all false
set_option maxRecDepth 100000
set_option maxHeartbeats 400000
namespace DL
open PySem PySem.Spec PyProof.Rows L2

/-! ### operators by data -/
def big : Nat := 1000000
theorem big_line {n : Nat} (h : n ≤ big) : n ≤ sizeLine := Nat.le_trans h (by rw [sizeLine_eq]; decide)
theorem big_lt {n : Nat} (h : n < big) : n < sizeLine := Nat.lt_of_lt_of_le h (by rw [sizeLine_eq]; decide)
@[simp] def addD : PyData → PyData → Option PyData
  | .int i, .int j => some (.int (i + j))
  | .tuple xs, .tuple ys => if xs.length + ys.length ≤ big then some (.tuple (xs ++ ys)) else none
  | .list xs, .list ys => if xs.length + ys.length ≤ big then some (.list (xs ++ ys)) else none
  | _, _ => none
@[simp] def subD : PyData → PyData → Option PyData
  | .int i, .int j => some (.int (i - j))
  | _, _ => none
@[simp] def mulD : PyData → PyData → Option PyData
  | .int i, .int j => if (-(2 ^ 64) < i ∧ i < 2 ^ 64) ∨ (-(2 ^ 64) < j ∧ j < 2 ^ 64) then some (.int (i * j)) else none
  | .tuple xs, .int k => if xs ≠ [] ∧ 2 ≤ k ∧ k ≤ 1000 ∧ xs.length ≤ 1000 then some (.tuple (List.replicate k.toNat xs).flatten) else none
  | .list xs, .int k => if -1000000 ≤ k ∧ k ≤ 1000000 ∧ xs.length * k.toNat ≤ big then some (.list (List.replicate k.toNat xs).flatten) else none
  | _, _ => none
@[simp] def fdivD : PyData → PyData → Option PyData
  | .int i, .int j => if 0 < j ∧ j < 1073741824 then some (.int (i / j)) else none
  | _, _ => none
@[simp] def modD : PyData → PyData → Option PyData
  | .int i, .int j => if 0 < j then some (.int (i % j)) else none
  | _, _ => none
@[simp] def powD : PyData → PyData → Option PyData
  | .int i, .int j => if 0 ≤ j ∧ j ≤ 1000000 ∧ i.natAbs < 2 ^ 64 then some (.int (i ^ j.toNat)) else none
  | _, _ => none
@[simp] def cmpD (p : Int → Int → Bool) : PyData → PyData → Option PyData
  | .int i, .int j => some (.bool (p i j))
  | _, _ => none
def eqD : PyData → PyData → Option PyData
  | .int i, .int j => some (.bool (decide (i = j)))
  | .none, .int _ => some (.bool false)
  | .int _, .none => some (.bool false)
  | .none, .none => some (.bool true)
  | .str i, .str j => some (.bool (decide (i = j)))
  | .bool i, .bool j => some (.bool (decide (i = j)))
  | x, y => if SeqAt.shaped x = true ∧ SeqAt.shaped y = true then some (.bool (PyData.eqv x y)) else none
def neD (x y : PyData) : Option PyData := match eqD x y with
  | some (.bool b) => some (.bool (!b))
  | _ => none
def inD : PyData → PyData → Option PyData
  | d, .list ds => if SeqAt.shaped d = true ∧ SeqAt.shaped (.list ds) = true then some (.bool (ds.any fun z => PyData.eqv z d)) else none
  | _, _ => none
def notInD (x y : PyData) : Option PyData := match inD x y with
  | some (.bool b) => some (.bool (!b))
  | _ => none
section
variable {K : PySem.W.Frag}
theorem spec_i {C : Int → Int → Prop} {f : Int → Int → Int} {op : PyData → PyData → Option PyData} (h : ∀ x y d, op x y = some d → ∃ i j, x = .int i ∧ y = .int j ∧ C i j ∧ d = .int (f i j)) : Spec2 (rI C fun i j => .int (f i j)) op := by
  intro B σ H S ρ g x y d v u Q e I rx ry k
  obtain ⟨i, j, rfl, rfl, c, rfl⟩ := h x y d e
  cases rx
  cases ry
  exact ⟨i, j, rfl, rfl, c, k _ H S I .refl (.int _)⟩
theorem spec_c {p : Int → Int → Bool} : Spec2 (rI0 fun i j => .bl (p i j)) (cmpD p) := by
  intro B σ H S ρ g x y d v u Q e I rx ry k
  cases rx with
  | int i =>
    cases ry with
    | int j =>
      cases e
      exact ⟨i, j, rfl, rfl, k _ H S I .refl (.bl _)⟩
    | _ => cases e
  | _ => cases e
abbrev addR (K : PySem.W.Frag) : R2 := fun x y H Q => (rI0 fun i j => .int (i + j)) x y H Q ∨ (rCatA K x y H Q ∨ rCat x y H Q)
theorem op_addA {X : Cx} : OpR X (binaryOp .Add) (addR X.K) := OpR.or op_add (OpR.or op_catA op_cat)
theorem spec_add : Spec2 (addR K) addD := by
  intro B σ H S ρ g x y d v u Q e I rx ry k
  cases rx with
  | int i =>
    cases ry with
    | int j =>
      cases e
      exact .inl ⟨i, j, rfl, rfl, k _ H S I .refl (.int _)⟩
    | _ => cases e
  | @tup a xs ds hx qx =>
    cases ry with
    | @tup b ys es hy qy =>
      unfold addD at e
      by_cases hl : ds.length + es.length ≤ big
      · simp only [if_pos hl] at e
        cases e
        refine .inr (.inl ⟨a, b, xs, ys, rfl, rfl, .of (I.sub _ _ hx), .of (I.sub _ _ hy), big_line (by rw [qx.length, qy.length]; exact hl), fun z => ?_, fun _ z => ?_, fun _ _ p hp => ?_⟩)
        · subst z
          cases qx
          exact k _ H S I .refl (.tup hy qy)
        · subst z
          cases qy
          exact k _ H S I .refl (by rw [List.append_nil]; exact .tup hx qx)
        · obtain ⟨I2, e2⟩ := I.alloc (o := .tup (xs ++ ys)) hp
          exact k _ _ _ I2 e2 (.tup upd_same ((qx.append qy).mono e2.base))
      · simp only [if_neg hl] at e
        cases e
    | _ => cases e
  | @lst a xs ds hx qx =>
    cases ry with
    | @lst b ys es hy qy =>
      unfold addD at e
      by_cases hl : ds.length + es.length ≤ big
      · simp only [if_pos hl] at e
        cases e
        refine .inr (.inr ⟨a, b, xs, ys, rfl, rfl, I.sub _ _ hx, I.sub _ _ hy, big_line (by rw [qx.length, qy.length]; exact hl), fun p hp => ?_⟩)
        obtain ⟨I2, e2⟩ := I.alloc (o := .lst (xs ++ ys)) hp
        exact k _ _ _ I2 e2 (.lst upd_same ((qx.append qy).mono e2.base))
      · simp only [if_neg hl] at e
        cases e
    | _ => cases e
  | _ => cases e
theorem spec_sub : Spec2 (rI0 fun i j => .int (i - j)) subD := by
  intro B σ H S ρ g x y d v u Q e I rx ry k
  cases rx with
  | int i =>
    cases ry with
    | int j =>
      cases e
      exact ⟨i, j, rfl, rfl, k _ H S I .refl (.int _)⟩
    | _ => cases e
  | _ => cases e
theorem spec_fdiv : Spec2 (rI CDiv fun i j => .int (i / j)) fdivD := spec_i fun x y d e => by
  unfold fdivD at e
  split at e
  · rename_i i j
    by_cases h : 0 < j ∧ j < 1073741824
    · rw [if_pos h] at e; cases e; exact ⟨i, j, rfl, rfl, h, rfl⟩
    · rw [if_neg h] at e; cases e
  · cases e
theorem spec_mod : Spec2 (rI (fun _ j => 0 < j) fun i j => .int (i % j)) modD := spec_i fun x y d e => by
  unfold modD at e
  split at e
  · rename_i i j
    by_cases h : 0 < j
    · rw [if_pos h] at e; cases e; exact ⟨i, j, rfl, rfl, h, rfl⟩
    · rw [if_neg h] at e; cases e
  · cases e
theorem spec_pow : Spec2 (rI CPow fun i j => .int (i ^ j.toNat)) powD := spec_i fun x y d e => by
  unfold powD at e
  split at e
  · rename_i i j
    by_cases h : 0 ≤ j ∧ j ≤ 1000000 ∧ i.natAbs < 2 ^ 64
    · rw [if_pos h] at e; cases e; exact ⟨i, j, rfl, rfl, h, rfl⟩
    · rw [if_neg h] at e; cases e
  · cases e
abbrev mulR (K : PySem.W.Frag) : R2 := fun x y H Q => (rI CMul fun i j => .int (i * j)) x y H Q ∨ (rRepT K x y H Q ∨ rRep x y H Q)
theorem op_mulA {X : Cx} : OpR X (binaryOp .Mult) (mulR X.K) := OpR.or op_mul (OpR.or op_repT op_rep)
theorem spec_mul : Spec2 (mulR K) mulD := by
  intro B σ H S ρ g x y d v u Q e I rx ry k
  cases rx with
  | int i =>
    cases ry with
    | int j =>
      unfold mulD at e
      by_cases h : (-(2 ^ 64) < i ∧ i < 2 ^ 64) ∨ (-(2 ^ 64) < j ∧ j < 2 ^ 64)
      · simp only [if_pos h] at e; cases e; exact .inl ⟨i, j, rfl, rfl, h, k _ H S I .refl (.int _)⟩
      · simp only [if_neg h] at e; cases e
    | _ => cases e
  | @tup a xs ds hx qx =>
    cases ry with
    | int j =>
      unfold mulD at e
      by_cases h : ds ≠ [] ∧ 2 ≤ j ∧ j ≤ 1000 ∧ ds.length ≤ 1000
      · simp only [if_pos h] at e
        cases e
        refine .inr (.inl ⟨a, j, xs, rfl, rfl, .of (I.sub _ _ hx), fun z => ?_, h.2.1, h.2.2.1, by rw [qx.length]; exact h.2.2.2, fun p hp => ?_⟩)
        · subst z
          cases qx
          exact h.1 rfl
        · obtain ⟨I2, e2⟩ := I.alloc (o := .tup (List.replicate j.toNat xs).flatten) hp
          exact k _ _ _ I2 e2 (.tup upd_same ((qx.flatten _).mono e2.base))
      · simp only [if_neg h] at e; cases e
    | _ => cases e
  | @lst a xs ds hx qx =>
    cases ry with
    | int j =>
      unfold mulD at e
      by_cases h : -1000000 ≤ j ∧ j ≤ 1000000 ∧ ds.length * j.toNat ≤ big
      · simp only [if_pos h] at e
        cases e
        refine .inr (.inr ⟨a, j, xs, rfl, rfl, I.sub _ _ hx, by omega, by omega, big_line (by rw [qx.length]; exact h.2.2), fun p hp => ?_⟩)
        obtain ⟨I2, e2⟩ := I.alloc (o := .lst (List.replicate j.toNat xs).flatten) hp
        exact k _ _ _ I2 e2 (.lst upd_same ((qx.flatten _).mono e2.base))
      · simp only [if_neg h] at e; cases e
    | _ => cases e
  | _ => cases e
abbrev eqR (K : PySem.W.Frag) : R2 := fun x y H Q => rEq x y H Q ∨ rEqD K x y H Q
abbrev neR (K : PySem.W.Frag) : R2 := fun x y H Q => rNe x y H Q ∨ rNeD K x y H Q
theorem eqD_cases {x y d : PyData} (e : eqD x y = some d) : ∃ b, d = .bool b ∧ ((∀ S v u, Rp S v x → Rp S u y → scal v u = true ∧ decide (v = u) = b) ∨ (SeqAt.shaped x = true ∧ SeqAt.shaped y = true ∧ PyData.eqv x y = b)) := by
  unfold eqD at e
  split at e
  · rename_i i j
    cases e
    refine ⟨_, rfl, .inl fun S v u r q => ?_⟩
    cases r; cases q
    exact ⟨rfl, by by_cases h : i = j <;> simp [h]⟩
  · cases e
    refine ⟨_, rfl, .inl fun S v u r q => ?_⟩
    cases r; cases q
    exact ⟨rfl, by simp⟩
  · cases e
    refine ⟨_, rfl, .inl fun S v u r q => ?_⟩
    cases r; cases q
    exact ⟨rfl, by simp⟩
  · cases e
    refine ⟨_, rfl, .inl fun S v u r q => ?_⟩
    cases r; cases q
    exact ⟨rfl, by simp⟩
  · rename_i i j
    cases e
    refine ⟨_, rfl, .inl fun S v u r q => ?_⟩
    cases r; cases q
    exact ⟨rfl, by by_cases h : i = j <;> simp [h]⟩
  · rename_i i j
    cases e
    refine ⟨_, rfl, .inl fun S v u r q => ?_⟩
    cases r; cases q
    exact ⟨rfl, by by_cases h : i = j <;> simp [h]⟩
  · rename_i h1 h2 h3 h4 h5 h6
    by_cases h : SeqAt.shaped x = true ∧ SeqAt.shaped y = true
    · rw [if_pos h] at e; cases e; exact ⟨_, rfl, .inr ⟨h.1, h.2, rfl⟩⟩
    · rw [if_neg h] at e; cases e
theorem spec_eq : Spec2 (eqR K) eqD := by
  intro B σ H S ρ g x y d v u Q e I rx ry k
  obtain ⟨b, rfl, h | ⟨h1, h2, h3⟩⟩ := eqD_cases e
  · obtain ⟨h1, h2⟩ := h S v u rx ry
    exact .inl ⟨h1, by rw [h2]; exact k _ H S I .refl (.bl _)⟩
  · exact .inr ⟨x, y, rx.dp I.sub, ry.dp I.sub, h1, h2, by rw [h3]; exact k _ H S I .refl (.bl _)⟩
theorem spec_ne : Spec2 (neR K) neD := by
  intro B σ H S ρ g x y d v u Q e I rx ry k
  unfold neD at e
  split at e
  · rename_i b he
    cases e
    obtain ⟨b', hb, h⟩ := eqD_cases he
    cases hb
    rcases h with h | ⟨h1, h2, h3⟩
    · obtain ⟨h1, h2⟩ := h S v u rx ry
      exact .inl ⟨h1, by rw [h2]; exact k _ H S I .refl (.bl _)⟩
    · exact .inr ⟨x, y, rx.dp I.sub, ry.dp I.sub, h1, h2, by rw [h3]; exact k _ H S I .refl (.bl _)⟩
  · cases e
theorem inD_cases {x y d : PyData} (e : inD x y = some d) : ∃ ds, y = .list ds ∧ SeqAt.shaped x = true ∧ SeqAt.shaped (.list ds) = true ∧ d = .bool (ds.any fun z => PyData.eqv z x) := by
  unfold inD at e
  split at e
  · rename_i ds
    by_cases h : SeqAt.shaped x = true ∧ SeqAt.shaped (.list ds) = true
    · rw [if_pos h] at e; cases e; exact ⟨ds, rfl, h.1, h.2, rfl⟩
    · rw [if_neg h] at e; cases e
  · cases e
theorem spec_in : Spec2 (rInD K) inD := by
  intro B σ H S ρ g x y d v u Q e I rx ry k
  obtain ⟨ds, rfl, h1, h2, rfl⟩ := inD_cases e
  exact ⟨x, ds, rx.dp I.sub, ry.dp I.sub, h1, h2, k _ H S I .refl (.bl _)⟩
theorem spec_notIn : Spec2 (rNotInD K) notInD := by
  intro B σ H S ρ g x y d v u Q e I rx ry k
  unfold notInD at e
  split at e
  · rename_i b he
    cases e
    obtain ⟨ds, rfl, h1, h2, h3⟩ := inD_cases he
    cases h3
    exact ⟨x, ds, rx.dp I.sub, ry.dp I.sub, h1, h2, k _ H S I .refl (.bl _)⟩
  · cases e
/-- an item -/
def ixD : PyData → PyData → Option PyData
  | .list ds, .int i => atI ds i
  | .tuple ds, .int i => atI ds i
  | _, _ => none
theorem Rps.atI {S : Hp} {vs : List V} {ds : List PyData} {i : Int} {d : PyData} (r : Rps S vs ds) (e : L2.atI ds i = some d) : ∃ v, L2.atI vs i = some v ∧ Rp S v d := by
  unfold L2.atI at e ⊢
  rw [r.length]
  cases h : ixN ds.length i with
  | none => rw [h] at e; cases e
  | some j =>
    rw [h] at e
    exact r.getD (i := j) e
abbrev ixR (K : PySem.W.Frag) : R2 := fun x y H Q => rIxL K x y H Q ∨ rIxT K x y H Q
theorem spec_ix : Spec2 (ixR K) ixD := by
  intro B σ H S ρ g x y d v u Q e I rx ry k
  cases rx with
  | @lst a xs ds hx qx =>
    cases ry with
    | int i =>
      obtain ⟨w, e1, r1⟩ := qx.atI (show atI ds i = some d from e)
      exact .inl ⟨a, xs, i, w, rfl, rfl, .of (I.sub _ _ hx), e1, k _ H S I .refl r1⟩
    | _ => cases e
  | @tup a xs ds hx qx =>
    cases ry with
    | int i =>
      obtain ⟨w, e1, r1⟩ := qx.atI (show atI ds i = some d from e)
      exact .inr ⟨a, xs, i, w, rfl, rfl, .of (I.sub _ _ hx), e1, k _ H S I .refl r1⟩
    | _ => cases e
  | _ => cases e
end
section
variable {X : Cx} {cls : Nat → Value} {W : WX} {pos : Pos} {a b c : Expr} {fa fb fc : Ex} {k : Nat}
theorem pd_add (ha : PE X a (tE cls W fa)) (hb : PE X b (tE cls W fb)) : PE X (.BinOp a .Add b pos) (tE cls W (opD addD fa fb)) := pd_bin op_addA spec_add ha hb
theorem pd_sub (ha : PE X a (tE cls W fa)) (hb : PE X b (tE cls W fb)) : PE X (.BinOp a .Sub b pos) (tE cls W (opD subD fa fb)) := pd_bin op_sub spec_sub ha hb
theorem pd_mul (ha : PE X a (tE cls W fa)) (hb : PE X b (tE cls W fb)) : PE X (.BinOp a .Mult b pos) (tE cls W (opD mulD fa fb)) := pd_bin op_mulA spec_mul ha hb
theorem pd_fdiv (ha : PE X a (tE cls W fa)) (hb : PE X b (tE cls W fb)) : PE X (.BinOp a .FloorDiv b pos) (tE cls W (opD fdivD fa fb)) := pd_bin op_fdiv spec_fdiv ha hb
theorem pd_mod (ha : PE X a (tE cls W fa)) (hb : PE X b (tE cls W fb)) : PE X (.BinOp a .Mod b pos) (tE cls W (opD modD fa fb)) := pd_bin op_mod spec_mod ha hb
theorem pd_pow (ha : PE X a (tE cls W fa)) (hb : PE X b (tE cls W fb)) : PE X (.BinOp a .Pow b pos) (tE cls W (opD powD fa fb)) := pd_bin op_pow spec_pow ha hb
theorem pd_ix (ha : PE X a (tE cls W fa)) (hb : PE X b (tE cls W fb)) (hs : PlainIx b := by exact fun _ _ => rfl) : PE X (.Subscript a b pos) (tE cls W (opD ixD fa fb)) := PE_imp (pe_ix (IxR.or ix_list ix_tup) ha hb hs) (op_of spec_ix)
theorem un_negA : UnR X (unaryOp .USub) (rU fun i => .int (-i)) := un_neg
@[simp] def negD : PyData → Option PyData
  | .int i => some (.int (-i))
  | _ => none
def Spec1 (r : V → Hp → VK → Prop) (op : PyData → Option PyData) : Prop := ∀ (B : Bs) (σ : L2.St) (H S : Hp) (ρ : Nv) (g : G) (x d : PyData) (v : V) (Q : VK), op x = some d → Good B σ H S ρ g → Rp S v x →
  (∀ w H' S', Good B σ H' S' ρ g → Gr B H S H' S' → Rp S' w d → Q w H') → r v H Q
theorem un_of {r : V → Hp → VK → Prop} {op : PyData → Option PyData} (sp : Spec1 r op) (σ : L2.St) (H : Hp) (Q : VK) (h : tE cls W (unD op fa) σ H Q) : (tE cls W fa) σ H fun x H1 => r x H1 Q := by
  obtain ⟨B, S, ρ, g, I, h⟩ := h
  unfold unD at h
  refine ⟨B, S, ρ, g, I, ?_⟩
  cases ea : fa ρ g with
  | bad => rw [ea] at h; exact h
  | ex n g1 => rw [ea] at h; exact h
  | ok x g1 =>
    rw [ea] at h
    intro v H1 S1 I1 e1 r1
    have h' := EO_gr e1 h
    simp only [R.bind_ok] at h'
    cases eo : op x with
    | none => rw [eo] at h'; exact False.elim h'
    | some d =>
      rw [eo] at h'
      exact sp B σ H1 S1 ρ g1 x d v Q eo I1 r1 h'
theorem pd_neg (ha : PE X a (tE cls W fa)) : PE X (.UnaryOp .USub a pos) (tE cls W (unD negD fa)) := PE_imp (pe_un un_neg ha) (un_of fun B σ H S ρ g x d v Q e I r k => by
  cases r with
  | int i => cases e; exact ⟨i, rfl, k _ H S I .refl (.int _)⟩
  | _ => cases e)
/-! comparisons: the operator's rule and data's, as value and as test -/
structure Cmp (X : Cx) (op : CmpOp) (o : PyData → PyData → Option PyData) : Prop where
  ex : ∃ r, OpR X (compareOp op) r ∧ Spec2 r o
theorem c_lt : Cmp X .Lt (cmpD fun i j => decide (i < j)) := ⟨_, op_lt, spec_c⟩
theorem c_le : Cmp X .LtE (cmpD fun i j => decide (i ≤ j)) := ⟨_, op_le, spec_c⟩
theorem c_gt : Cmp X .Gt (cmpD fun i j => decide (j < i)) := ⟨_, op_gt, spec_c⟩
theorem c_ge : Cmp X .GtE (cmpD fun i j => decide (j ≤ i)) := ⟨_, op_ge, spec_c⟩
theorem hu64 (hr : Room k X.A) : X.A.units + 64 < cLine := hr.units
theorem hu65 (hr : Room k X.A) : X.A.units + 65 < cLine := by have := hr.un; omega
theorem c_eq (hr : Room k X.A) : Cmp X .Eq eqD := ⟨_, OpR.or op_eq (op_eqD (hu64 hr)), spec_eq⟩
theorem c_ne (hr : Room k X.A) : Cmp X .NotEq neD := ⟨_, OpR.or op_ne (op_neD (hu64 hr)), spec_ne⟩
theorem c_in (hr : Room k X.A) : Cmp X .In inD := ⟨_, op_inD (hu65 hr), spec_in⟩
theorem c_notIn (hr : Room k X.A) : Cmp X .NotIn notInD := ⟨_, op_notInD (hu65 hr), spec_notIn⟩
variable {op op' : CmpOp} {o o' : PyData → PyData → Option PyData}
theorem pd_cmp (h : Cmp X op o) (ha : PE X a (tE cls W fa)) (hb : PE X b (tE cls W fb)) (hm : behindInMarks op b = false := by first | exact nomark _ | rfl) : PE X (.Compare a [op] [b] pos) (tE cls W (opD o fa fb)) := by
  obtain ⟨r, h1, h2⟩ := h.ex
  exact pd_cmpO h1 h2 ha hb hm
theorem ptd_cmp (h : Cmp X op o) (ha : PE X a (tE cls W fa)) (hb : PE X b (tE cls W fb)) (hm : behindInMarks op b = false := by first | exact nomark _ | rfl) : PT X (.Compare a [op] [b] pos) (tT cls W (boolD (opD o fa fb))) := by
  obtain ⟨r, h1, h2⟩ := h.ex
  exact ptd_cmpO h1 h2 ha hb hm
/-- a op b op' c -/
@[simp] def chainD (o o' : PyData → PyData → Option PyData) (a b c : Ex) : Ex := fun ρ g => (a ρ g).bind fun x g1 => (b ρ g1).bind fun y g2 => (ofO (o x y) g2).bind fun z g3 => match z with
  | .bool true => (c ρ g3).bind fun w g4 => ofO (o' y w) g4
  | .bool false => .ok (.bool false) g3
  | _ => .bad
theorem chain_of {r r' : R2} (s : Spec2 r o) (s' : Spec2 r' o') (σ : L2.St) (H : Hp) (Q : VK) (h : tE cls W (chainD o o' fa fb fc) σ H Q) : tChain r r' (tE cls W fa) (tE cls W fb) (tE cls W fc) σ H Q := by
  obtain ⟨B, S, ρ, g, I, h⟩ := h
  unfold chainD at h
  refine ⟨B, S, ρ, g, I, ?_⟩
  cases ea : fa ρ g with
  | bad => rw [ea] at h; exact h
  | ex n g1 => rw [ea] at h; exact h
  | ok x g1 =>
    rw [ea] at h
    intro v H1 S1 I1 e1 r1
    refine ⟨B, S1, ρ, g1, I1, ?_⟩
    have h' := EO_gr e1 h
    simp only [R.bind_ok] at h'
    cases eb : fb ρ g1 with
    | bad => rw [eb] at h'; exact h'
    | ex n g2 => rw [eb] at h'; exact h'
    | ok y g2 =>
      rw [eb] at h'
      simp only [R.bind_ok] at h'
      intro u H2 S2 I2 e2 r2
      have h2 := EO_gr e2 h'
      cases eo : o x y with
      | none => rw [eo] at h2; exact False.elim h2
      | some d =>
        rw [eo] at h2
        simp only [ofO_some, R.bind_ok] at h2
        refine s B σ H2 S2 ρ g2 x y d v u _ eo I2 (r1.mono e2.base) r2 fun z H3 S3 I3 e3 r3 => ?_
        have h3 := EO_gr e3 h2
        cases r3 with
        | bl t =>
          refine ⟨t, rfl, ?_⟩
          cases t with
          | false => exact h3 _ H3 S3 I3 .refl (.bl _)
          | true =>
            refine ⟨B, S3, ρ, g2, I3, ?_⟩
            simp only at h3
            cases ec : fc ρ g2 with
            | bad => rw [ec] at h3; exact h3
            | ex n g4 => rw [ec] at h3; exact h3
            | ok w g4 =>
              rw [ec] at h3
              simp only [R.bind_ok] at h3
              intro q H4 S4 I4 e4 r4
              have h4 := EO_gr e4 h3
              cases eo' : o' y w with
              | none => rw [eo'] at h4; exact False.elim h4
              | some d' =>
                rw [eo'] at h4
                exact s' B σ H4 S4 ρ g4 y w d' u q Q eo' I4 ((r2.mono e3.base).mono e4.base) r4 h4
        | _ => exact False.elim h3
theorem pd_chain (h : Cmp X op o) (h' : Cmp X op' o') (ha : PE X a (tE cls W fa)) (hb : PE X b (tE cls W fb)) (hc : PE X c (tE cls W fc)) (hm : lastMarks [op, op'] [b, c] = false := by with_unfolding_all rfl) :
    PE X (.Compare a [op, op'] [b, c] pos) (tE cls W (chainD o o' fa fb fc)) := by
  obtain ⟨r, h1, h2⟩ := h.ex
  obtain ⟨r', h3, h4⟩ := h'.ex
  exact PE_imp (pe_chain h1 h3 ha hb hc hm) (chain_of h2 h4)
theorem ptd_chain (h : Cmp X op o) (h' : Cmp X op' o') (ha : PE X a (tE cls W fa)) (hb : PE X b (tE cls W fb)) (hc : PE X c (tE cls W fc)) (hm : lastMarks [op, op'] [b, c] = false := by with_unfolding_all rfl) :
    PT X (.Compare a [op, op'] [b, c] pos) (tT cls W (boolD (chainD o o' fa fb fc))) := by
  obtain ⟨r, h1, h2⟩ := h.ex
  obtain ⟨r', h3, h4⟩ := h'.ex
  exact PT_imp (pt_chain h1 h3 ha hb hc hm) fun σ H Q z => chain_of h2 h4 σ H _ (boolD_of σ H Q z)
/-- is None -/
@[simp] def isNoneD : PyData → Option PyData
  | .none => some (.bool true)
  | _ => some (.bool false)
@[simp] def notNoneD : PyData → Option PyData
  | .none => some (.bool false)
  | _ => some (.bool true)
theorem sp_isN : Spec1 (fun x H Q => Q (.bl (decide (x = .non))) H) isNoneD := fun B σ H S ρ g x d v Q e I r k => by
  cases r <;> cases e <;> exact k _ H S I .refl (.bl _)
theorem sp_notN : Spec1 (fun x H Q => Q (.bl (!decide (x = .non))) H) notNoneD := fun B σ H S ρ g x d v Q e I r k => by
  cases r <;> cases e <;> exact k _ H S I .refl (.bl _)
theorem pd_isN {j p} (ha : PE X a (tE cls W fa)) : PE X (.Compare a [.Is] [.Constant .none j p] pos) (tE cls W (unD isNoneD fa)) := PE_imp (pe_cmp (pc_isN ha)) (un_of sp_isN)
theorem pd_notN {j p} (ha : PE X a (tE cls W fa)) : PE X (.Compare a [.IsNot] [.Constant .none j p] pos) (tE cls W (unD notNoneD fa)) := PE_imp (pe_cmp (pc_notN ha)) (un_of sp_notN)
theorem ptd_isN {j p} (ha : PE X a (tE cls W fa)) : PT X (.Compare a [.Is] [.Constant .none j p] pos) (tT cls W (boolD (unD isNoneD fa))) := PT_imp (pt_cmp (pc_isN ha)) fun σ H Q h => un_of sp_isN σ H _ (boolD_of σ H Q h)
theorem ptd_notN {j p} (ha : PE X a (tE cls W fa)) : PT X (.Compare a [.IsNot] [.Constant .none j p] pos) (tT cls W (boolD (unD notNoneD fa))) := PT_imp (pt_cmp (pc_notN ha)) fun σ H Q h => un_of sp_notN σ H _ (boolD_of σ H Q h)
/-! built-ins of one argument -/
def Spec1c (r : List V → Hp → VK → Prop) (op : PyData → Option PyData) : Prop := Spec1 (fun v H Q => r [v] H Q) op
theorem pd_call1B {x : Str} {p : Pos} {id : String} {r : List V → Hp → VK → Prop} {op : PyData → Option PyData} (hc : CallR X (.builtin id) r) (sp : Spec1c r op) (hm : X.mg x = none) (hv : bootBuiltins x = some (.builtin id)) (ha : PE X a (tE cls W fa)) (hg : Gl X x := by rfl)
    (hn : x ≠ "__name__" := by decide) (hd : (x == ("__debug__" : Str)) = false := by decide) (hs : starEach [a] X.env = (false, eval a X.env) :: starEach [] X.env := by rfl) (hpl : (backTo pos (starEach [] X.env)).any (·.1) = false := by rfl) :
    PE X (.Call (.Name x p) [a] [] pos) (tE cls W (unD op fa)) := PE_imp (pe_callB hc hg hm hv (pa_cons ha pa_nil hs) hn hd hs hpl) (un_of sp)
theorem pd_call1T {x : Str} {p : Pos} {T : String} {r : List V → Hp → VK → Prop} {op : PyData → Option PyData} (hc : CallR X (.type T) r) (sp : Spec1c r op) (hm : X.mg x = none) (hv : bootBuiltins x = some (.type T)) (ha : PE X a (tE cls W fa)) (hg : Gl X x := by rfl)
    (hn : x ≠ "__name__" := by decide) (hd : (x == ("__debug__" : Str)) = false := by decide) (hs : starEach [a] X.env = (false, eval a X.env) :: starEach [] X.env := by rfl) (hpl : (backTo pos (starEach [] X.env)).any (·.1) = false := by rfl) :
    PE X (.Call (.Name x p) [a] [] pos) (tE cls W (unD op fa)) := PE_imp (pe_callTy hc hg hm hv (pa_cons ha pa_nil hs) hn hd hs hpl) (un_of sp)
@[simp] def lenD : PyData → Option PyData
  | .list ds => some (.int ds.length)
  | .tuple ds => some (.int ds.length)
  | _ => none
theorem sp_len {K : PySem.W.Frag} : Spec1c (fun xs H Q => ∃ x n, xs = [x] ∧ LenV K x H n ∧ Q (.int n) H) lenD := fun B σ H S ρ g x d v Q e I r k => by
  cases r with
  | lst h q => cases e; exact ⟨_, _, rfl, .inl ⟨_, .of (I.sub _ _ h), rfl⟩, by rw [q.length]; exact k _ H S I .refl (.int _)⟩
  | tup h q => cases e; exact ⟨_, _, rfl, .inr ⟨_, .of (I.sub _ _ h), rfl⟩, by rw [q.length]; exact k _ H S I .refl (.int _)⟩
  | _ => cases e
theorem pd_len {p : Pos} (hm : X.mg "len" = none) (ha : PE X a (tE cls W fa)) (hg : Gl X "len" := by rfl) (hs : starEach [a] X.env = (false, eval a X.env) :: starEach [] X.env := by rfl) : PE X (.Call (.Name "len" p) [a] [] pos) (tE cls W (unD lenD fa)) :=
  pd_call1B call_len sp_len hm boot_len ha hg (by decide) (by decide) hs
@[simp] def tupleD : PyData → Option PyData
  | .list ds => some (.tuple ds)
  | .tuple ds => some (.tuple ds)
  | _ => none
theorem sp_tuple {K : PySem.W.Frag} : Spec1c (fun xs H Q => ∃ p ys, xs = [V.ref p] ∧ ((SqL K H p ys ∧ ∀ l, H l = none → Q (V.ref l) (upd H l (.tup ys))) ∨ (SqT K H p ys ∧ Q (V.ref p) H))) tupleD := fun B σ H S ρ g x d v Q e I r k => by
  cases r with
  | @lst a xs ds h q =>
    cases e
    refine ⟨_, _, rfl, .inl ⟨.of (I.sub _ _ h), fun l hl => ?_⟩⟩
    obtain ⟨I2, e2⟩ := I.alloc (o := .tup xs) hl
    exact k _ _ _ I2 e2 (.tup upd_same (q.mono e2.base))
  | tup h q => cases e; exact ⟨_, _, rfl, .inr ⟨.of (I.sub _ _ h), k _ H S I .refl (.tup h q)⟩⟩
  | _ => cases e
theorem pd_tuple {p : Pos} (hm : X.mg "tuple" = none) (ha : PE X a (tE cls W fa)) (hg : Gl X "tuple" := by rfl) (hs : starEach [a] X.env = (false, eval a X.env) :: starEach [] X.env := by rfl) : PE X (.Call (.Name "tuple" p) [a] [] pos) (tE cls W (unD tupleD fa)) :=
  pd_call1T call_tuple_of sp_tuple hm PyProof.Rows.boot_tuple ha hg (by decide) (by decide) hs
@[simp] def listD : PyData → Option PyData
  | .list ds => some (.list ds)
  | .tuple ds => some (.list ds)
  | _ => none
theorem sp_list {K : PySem.W.Frag} : Spec1c (fun xs H Q => ∃ p ys, xs = [V.ref p] ∧ (SqL K H p ys ∨ SqT K H p ys) ∧ ∀ l, H l = none → Q (V.ref l) (upd H l (.lst ys))) listD := fun B σ H S ρ g x d v Q e I r k => by
  cases r with
  | @lst a xs ds h q =>
    cases e
    refine ⟨_, _, rfl, .inl (.of (I.sub _ _ h)), fun l hl => ?_⟩
    obtain ⟨I2, e2⟩ := I.alloc (o := .lst xs) hl
    exact k _ _ _ I2 e2 (.lst upd_same (q.mono e2.base))
  | @tup a xs ds h q =>
    cases e
    refine ⟨_, _, rfl, .inr (.of (I.sub _ _ h)), fun l hl => ?_⟩
    obtain ⟨I2, e2⟩ := I.alloc (o := .lst xs) hl
    exact k _ _ _ I2 e2 (.lst upd_same (q.mono e2.base))
  | _ => cases e
theorem pd_list {p : Pos} (hm : X.mg "list" = none) (ha : PE X a (tE cls W fa)) (hg : Gl X "list" := by rfl) (hs : starEach [a] X.env = (false, eval a X.env) :: starEach [] X.env := by rfl) : PE X (.Call (.Name "list" p) [a] [] pos) (tE cls W (unD listD fa)) :=
  pd_call1T call_list_of sp_list hm PyProof.Rows.boot_list ha hg (by decide) (by decide) hs
/-- the ints of a list -/
def intsD : List PyData → Option (List Int)
  | [] => some []
  | .int i :: ds => (intsD ds).map (i :: ·)
  | _ :: _ => none
theorem intsD_eq : ∀ {ds : List PyData} {ns : List Int}, intsD ds = some ns → ds = ns.map PyData.int
  | [], ns, e => by cases e; rfl
  | d :: ds, ns, e => by
    cases d with
    | int i =>
      unfold intsD at e
      cases h : intsD ds with
      | none => rw [h] at e; cases e
      | some ms =>
        rw [h] at e
        cases e
        rw [List.map_cons, intsD_eq h]
    | _ => cases e
theorem intsD_map : ∀ ns : List Int, intsD (ns.map PyData.int) = some ns
  | [] => rfl
  | n :: ns => by rw [List.map_cons]; unfold intsD; rw [intsD_map ns]; rfl
def sumD : PyData → Option PyData
  | .list ds => (intsD ds).map fun ns => .int ns.sum
  | _ => none
theorem sp_sum {K : PySem.W.Frag} : Spec1c (rSum K) sumD := fun B σ H S ρ g x d v Q e I r k => by
  cases r with
  | @lst a xs ds h q =>
    have e : (intsD ds).map (fun ns => PyData.int ns.sum) = some d := e
    cases hi : intsD ds with
    | none => rw [hi] at e; cases e
    | some ns =>
      rw [hi] at e
      cases e
      rw [intsD_eq hi] at q
      have ex := q.ints
      subst ex
      exact ⟨a, ns, rfl, .of (I.sub _ _ h), k _ H S I .refl (.int _)⟩
  | _ => cases e
theorem pd_sum {p : Pos} (hc : X.calm = true) (hm : X.mg "sum" = none) (ha : PE X a (tE cls W fa)) (hg : Gl X "sum" := by rfl) (hs : starEach [a] X.env = (false, eval a X.env) :: starEach [] X.env := by rfl) : PE X (.Call (.Name "sum" p) [a] [] pos) (tE cls W (unD sumD fa)) :=
  pd_call1B (cr_sum hc) sp_sum hm boot_sum ha hg (by decide) (by decide) hs
/-- isinstance(a, T), T a built-in type -/
def isT (T : String) : PyData → Bool
  | .bool _ => T == "bool" || T == "int"
  | .int _ => T == "int"
  | .str _ => T == "str"
  | .list _ => T == "list"
  | .tuple _ => T == "tuple"
  | _ => false
@[simp] def isiD (T : String) : PyData → Option PyData := fun d => some (.bool (isT T d))
structure KitOk (T : String) : Prop where
  non : kitB "NoneType" T = some (isT T .none)
  bl : kitB "bool" T = some (isT T (.bool true))
  int : kitB "int" T = some (isT T (.int 0))
  str : kitB "str" T = some (isT T (.str (Str.ofString "")))
  lst : kitB "list" T = some (isT T (.list []))
  tup : kitB "tuple" T = some (isT T (.tuple []))
theorem kit_int : KitOk "int" := ⟨by decide +kernel, by decide +kernel, by decide +kernel, by decide +kernel, by decide +kernel, by decide +kernel⟩
theorem kit_bool : KitOk "bool" := ⟨by decide +kernel, by decide +kernel, by decide +kernel, by decide +kernel, by decide +kernel, by decide +kernel⟩
theorem kit_str : KitOk "str" := ⟨by decide +kernel, by decide +kernel, by decide +kernel, by decide +kernel, by decide +kernel, by decide +kernel⟩
theorem kit_list : KitOk "list" := ⟨by decide +kernel, by decide +kernel, by decide +kernel, by decide +kernel, by decide +kernel, by decide +kernel⟩
theorem kit_tuple : KitOk "tuple" := ⟨by decide +kernel, by decide +kernel, by decide +kernel, by decide +kernel, by decide +kernel, by decide +kernel⟩
theorem sp_isi {K : PySem.W.Frag} {T : String} (kt : KitOk T) : Spec1 (fun v H Q => rIsi K [v, .ty T] H Q) (isiD T) := fun B σ H S ρ g x d v Q e I r k => by
  cases e
  have fin : ∀ {t : String} {b : Bool}, TyOf K H v (.type t) → kitB t T = some b → b = isT T x → rIsi K [v, .ty T] H Q := fun {t b} ty h hb => by
    subst hb
    exact ⟨v, .ty T, _, _, _, rfl, .ty T, .base ty, kit_ty h, k _ H S I .refl (.bl _)⟩
  cases r with
  | non => exact fin .non kt.non rfl
  | bl b => exact fin (.bl b) kt.bl rfl
  | int i => exact fin (.int i) kt.int rfl
  | str z => exact fin (.str z) kt.str rfl
  | lst h q => exact fin (.lst (I.sub _ _ h)) kt.lst rfl
  | tup h q => exact fin (.tup (I.sub _ _ h)) kt.tup rfl
theorem pd_isi {p p' : Pos} {T : Str} {t : String} (kt : KitOk t) (hm : X.mg "isinstance" = none) (hmT : X.mg T = none) (hvT : bootBuiltins T = some (.type t)) (ha : PE X a (tE cls W fa)) (hg : Gl X "isinstance" := by rfl) (hgT : Gl X T := by rfl) (hnT : T ≠ "__name__" := by decide) (hdT : (T == ("__debug__" : Str)) = false := by decide)
    (hs : starEach [a, .Name T p'] X.env = (false, eval a X.env) :: starEach [.Name T p'] X.env := by rfl) (hs2 : starEach [.Name T p'] X.env = (false, eval (.Name T p') X.env) :: starEach [] X.env := by rfl) (hpl : (backTo pos (starEach [.Name T p'] X.env)).any (·.1) = false := by rfl) :
    PE X (.Call (.Name "isinstance" p) [a, .Name T p'] [] pos) (tE cls W (unD (isiD t) fa)) :=
  PE_imp (pe_callB call_isi hg hm boot_isinstance (pa_cons ha (pa_cons (pe_bltn (v := .ty t) hgT hmT hvT rfl hnT hdT) pa_nil hs2) hs) (by decide) (by decide) hs hpl) (un_of (sp_isi kt))
end
end DL

set_option Elab.async false
set_option linter.all false
set_option maxRecDepth 100000
set_option maxHeartbeats 400000
namespace DL
open PySem PySem.Spec PyProof.Rows L2

/-! ### slices -/
abbrev Pa := Nv → G → R (Option Int)
section
variable (cls : Nat → Value) (W : WX)
def PaO (B : Bs) (σ : L2.St) (H S : Hp) (ρ : Nv) (Q : Option Int → Hp → Prop) : R (Option Int) → Prop
  | .ok b g' => ∀ H' S', Good B σ H' S' ρ g' → Gr B H S H' S' → Q b H'
  | .ex n g' => ∀ H' S', Good B σ H' S' ρ g' → Gr B H S H' S' → W (cls n) none σ H'
  | .bad => False
def tP (f : Pa) : L2.TO := fun σ H Q => ∃ B S ρ g, Good B σ H S ρ g ∧ PaO cls W B σ H S ρ Q (f ρ g)
end
section
variable {X : Cx} {cls : Nat → Value} {W : WX} {pos : Pos} {a b c : Expr} {fa fb fc : Ex}
theorem PO_imp {e : Option Expr} {t t' : L2.TO} (h : PO X e t) (hi : ∀ σ H Q, t' σ H Q → t σ H Q) : PO X e t' := ⟨fun pins s σ H Q I q => h.run pins s σ H Q I (hi _ _ _ q)⟩
theorem PaO_gr {B : Bs} {σ : L2.St} {H S H1 S1 : Hp} {ρ : Nv} {Q : Option Int → Hp → Prop} {r : R (Option Int)} (e : Gr B H S H1 S1) (h : PaO cls W B σ H S ρ Q r) : PaO cls W B σ H1 S1 ρ Q r := by
  cases r with
  | ok a g => exact fun H' S' I u => h H' S' I (e.trans u)
  | ex n g => exact fun H' S' I u => h H' S' I (e.trans u)
  | bad => exact h
@[simp] def noPart : Pa := fun _ g => .ok none g
@[simp] def somePart (f : Ex) : Pa := fun ρ g => (f ρ g).bind fun d g1 => match d with
  | .int i => .ok (some i) g1
  | _ => .bad
theorem po_no : PO X none (tP cls W noPart) := PO_imp po_none fun σ H Q ⟨B, S, ρ, g, I, h⟩ => h H S I .refl
theorem po_so (ha : PE X a (tE cls W fa)) : PO X (some a) (tP cls W (somePart fa)) := PO_imp (po_some ha) fun σ H Q ⟨B, S, ρ, g, I, h⟩ => by
  unfold somePart at h
  refine ⟨B, S, ρ, g, I, ?_⟩
  cases ea : fa ρ g with
  | bad => rw [ea] at h; exact h
  | ex n g1 => rw [ea] at h; exact h
  | ok x g1 =>
    rw [ea] at h
    intro v H1 S1 I1 e1 r1
    cases r1 with
    | int i => exact ⟨i, rfl, h H1 S1 I1 e1⟩
    | _ => exact False.elim h
def cutP (xs : List PyData) (lo hi : Option Int) : List PyData := (xs.drop (HT.sIx xs.length 0 lo)).take (HT.sIx xs.length xs.length hi - HT.sIx xs.length 0 lo)
theorem Rps.cut {S : Hp} {vs : List V} {ds : List PyData} (r : Rps S vs ds) (lo hi : Option Int) : Rps S (cutV vs lo hi) (cutP ds lo hi) := by
  unfold cutV cutP
  rw [r.length]
  exact (r.drop _).take _
@[simp] def slD (f : Ex) (lo hi : Pa) : Ex := fun ρ g => (f ρ g).bind fun x g1 => (lo ρ g1).bind fun l g2 => (hi ρ g2).bind fun u g3 => match x with
  | .list ds => .ok (.list (cutP ds l u)) g3
  | .tuple ds => .ok (.tuple (cutP ds l u)) g3
  | _ => .bad
theorem pd_slice {lo hi : Option Expr} {fl fh : Pa} {p2 : Pos} (ha : PE X a (tE cls W fa)) (hl : PO X lo (tP cls W fl)) (hh : PO X hi (tP cls W fh)) : PE X (.Subscript a (.Slice lo hi none p2) pos) (tE cls W (slD fa fl fh)) :=
  PE_imp (pe_slice (SlR.or sl_list sl_tupA) ha hl hh) fun σ H Q ⟨B, S, ρ, g, I, h⟩ => by
    unfold slD at h
    refine ⟨B, S, ρ, g, I, ?_⟩
    cases ea : fa ρ g with
    | bad => rw [ea] at h; exact h
    | ex n g1 => rw [ea] at h; exact h
    | ok x g1 =>
      rw [ea] at h
      intro v H1 S1 I1 e1 r1
      refine ⟨B, S1, ρ, g1, I1, ?_⟩
      have h' := EO_gr e1 h
      simp only [R.bind_ok] at h'
      cases eb : fl ρ g1 with
      | bad => rw [eb] at h'; exact h'
      | ex n g2 => rw [eb] at h'; exact h'
      | ok l g2 =>
        rw [eb] at h'
        simp only [R.bind_ok] at h'
        intro H2 S2 I2 e2
        refine ⟨B, S2, ρ, g2, I2, ?_⟩
        have h2 := EO_gr e2 h'
        cases ec : fh ρ g2 with
        | bad => rw [ec] at h2; exact h2
        | ex n g3 => rw [ec] at h2; exact h2
        | ok u g3 =>
          rw [ec] at h2
          simp only [R.bind_ok] at h2
          intro H3 S3 I3 e3
          have h3 := EO_gr e3 h2
          have r3 := (r1.mono e2.base).mono e3.base
          cases r3 with
          | @lst p xs ds hx qx =>
            refine .inl ⟨p, xs, rfl, .of (I3.sub _ _ hx), fun q hq => ?_⟩
            obtain ⟨I4, e4⟩ := I3.alloc (o := .lst (cutV xs l u)) hq
            exact h3 _ _ _ I4 e4 (.lst upd_same ((qx.cut l u).mono e4.base))
          | @tup p xs ds hx qx =>
            refine .inr ⟨p, xs, rfl, .of (I3.sub _ _ hx), fun hw => ?_, fun hw q hq => ?_⟩
            · have ec : cutP ds l u = ds := by
                unfold cutP
                rw [qx.length] at hw
                rw [hw.1, hw.2]
                simp
              have h4 := h3 (.ref p) H3 S3 I3 .refl
              rw [ec] at h4
              exact h4 (.tup hx qx)
            · obtain ⟨I4, e4⟩ := I3.alloc (o := .tup (cutV xs l u)) hq
              exact h3 _ _ _ I4 e4 (.tup upd_same ((qx.cut l u).mono e4.base))
          | _ => exact False.elim h3
end

/-! ### what is walked -/
/-- a step of a walk: the heap as it was, or with one more shared object -/
inductive Gr1 (H S : Hp) : Hp → Hp → Prop
  | same : Gr1 H S H S
  | new {p : Addr} {o : HO} : H p = none → Gr1 H S (upd H p o) (upd S p o)
theorem Gr1.good {B : Bs} {σ : L2.St} {H S H' S' : Hp} {ρ : Nv} {g : G} (e : Gr1 H S H' S') (I : Good B σ H S ρ g) : Good B σ H' S' ρ g ∧ Gr B H S H' S' := by
  cases e with
  | same => exact ⟨I, .refl⟩
  | new h => exact I.alloc h
structure ItOk (J : It) (S : Hp) (ds : List PyData) : Prop where
  go : ∀ i H, i < ds.length → Same S H → J.go i H
  stop : ∀ i H, ds.length ≤ i → Same S H → J.stop i H
  yld : ∀ i H S' x H', i < ds.length → Same S S' → Same S' H → J.yld i H x H' → ∃ d S2, ds[i]? = some d ∧ Gr1 H S' H' S2 ∧ Rp S2 x d
section
variable (cls : Nat → Value) (W : WX)
def IO (B : Bs) (σ : L2.St) (H S : Hp) (ρ : Nv) (Q : It → Hp → Prop) : R (List PyData) → Prop
  | .ok ds g' => ∀ J H' S', Good B σ H' S' ρ g' → Gr B H S H' S' → ItOk J S' ds → Q J H'
  | .ex n g' => ∀ H' S', Good B σ H' S' ρ g' → Gr B H S H' S' → W (cls n) none σ H'
  | .bad => False
def tI (f : Ar) : TI := fun σ H Q => ∃ B S ρ g, Good B σ H S ρ g ∧ IO cls W B σ H S ρ Q (f ρ g)
end
section
variable {X : Cx} {cls : Nat → Value} {W : WX} {pos : Pos} {a b c tg : Expr} {fa fb fc : Ex}
@[simp] def itemsD (f : Ex) : Ar := fun ρ g => (f ρ g).bind fun d g1 => match d with
  | .list ds => .ok ds g1
  | .tuple ds => .ok ds g1
  | _ => .bad
theorem it_list {K : PySem.W.Frag} {S : Hp} {p : Addr} {xs : List V} {ds : List PyData} (hx : S p = some (.lst xs)) (q : Rps S xs ds) : ItOk (Itl K p) S ds := by
  refine ⟨fun i H hi hs => ?_, fun i H hi hs => ⟨xs, .of (hs _ _ hx), by rw [q.length]; exact hi⟩, fun i H S' x H' hi h1 h2 hy => ?_⟩
  · obtain ⟨v, hv, _⟩ := q.getD (List.getElem?_eq_getElem hi)
    exact ⟨xs, v, .of (hs _ _ hx), hv⟩
  · obtain ⟨rfl, hy⟩ := hy
    obtain ⟨d, hd, r⟩ := q.get (hy xs (.of (h2 _ _ (h1 _ _ hx))))
    exact ⟨d, S', hd, .same, r.mono h1⟩
theorem it_tup {K : PySem.W.Frag} {S : Hp} {p : Addr} {xs : List V} {ds : List PyData} (hx : S p = some (.tup xs)) (q : Rps S xs ds) : ItOk (Itt K p) S ds := by
  refine ⟨fun i H hi hs => ?_, fun i H hi hs => ⟨xs, .of (hs _ _ hx), by rw [q.length]; exact hi⟩, fun i H S' x H' hi h1 h2 hy => ?_⟩
  · obtain ⟨v, hv, _⟩ := q.getD (List.getElem?_eq_getElem hi)
    exact ⟨xs, v, .of (hs _ _ hx), hv⟩
  · obtain ⟨rfl, hy⟩ := hy
    obtain ⟨d, hd, r⟩ := q.get (hy xs (.of (h2 _ _ (h1 _ _ hx))))
    exact ⟨d, S', hd, .same, r.mono h1⟩
theorem pid_seq (ha : PE X a (tE cls W fa)) : PI X tg a (tI cls W (itemsD fa)) := by
  refine ⟨fun pins s σ H Q I0 h => ?_⟩
  obtain ⟨B, S, ρ, g, I, h⟩ := h
  unfold itemsD at h
  cases ea : fa ρ g with
  | bad => rw [ea] at h; exact False.elim h
  | ex n g1 =>
    rw [ea] at h
    refine (pi_list ha).run pins s σ H Q I0 ⟨B, S, ρ, g, I, ?_⟩
    rw [ea]
    exact h
  | ok x g1 =>
    rw [ea] at h
    simp only [R.bind_ok] at h
    cases x with
    | list ds =>
      refine (pi_list ha).run pins s σ H Q I0 ⟨B, S, ρ, g, I, ?_⟩
      rw [ea]
      intro v H1 S1 I1 e1 r1
      cases r1 with
      | @lst p xs ds hx qx => exact ⟨p, rfl, ⟨xs, .of (I1.sub _ _ hx)⟩, h _ H1 S1 I1 e1 (it_list hx qx)⟩
    | tuple ds =>
      refine (pi_tup ha).run pins s σ H Q I0 ⟨B, S, ρ, g, I, ?_⟩
      rw [ea]
      intro v H1 S1 I1 e1 r1
      cases r1 with
      | @tup p xs ds hx qx => exact ⟨p, rfl, ⟨xs, .of (I1.sub _ _ hx)⟩, h _ H1 S1 I1 e1 (it_tup hx qx)⟩
    | _ => exact False.elim h
def upFrom (lo : Int) (n : Nat) : List PyData := (List.range n).map fun (k : Nat) => PyData.int (lo + (k : Int))
theorem it_rng (S : Hp) (lo : Int) (n : Nat) : ItOk (Itr lo n) S (upFrom lo n) := by
  have hl : (upFrom lo n).length = n := by unfold upFrom; rw [List.length_map, List.length_range]
  refine ⟨fun i H hi _ => by rw [hl] at hi; exact hi, fun i H hi _ => by rw [hl] at hi; exact hi, fun i H S' x H' hi h1 h2 hy => ?_⟩
  obtain ⟨rfl, rfl⟩ := hy
  rw [hl] at hi
  refine ⟨.int (lo + (i : Int)), S', ?_, .same, .int _⟩
  unfold upFrom
  rw [List.getElem?_map, List.getElem?_range hi]
  rfl
@[simp] def rangeD (f : Ex) : Ar := fun ρ g => (f ρ g).bind fun d g1 => match d with
  | .int n => if n ≤ (big : Int) ∧ -(big : Int) ≤ n then .ok (upFrom 0 n.toNat) g1 else .bad
  | _ => .bad
theorem pid_range {p : Pos} (hm : X.mg "range" = none) (ha : PE X a (tE cls W fa)) (hg : Gl X "range" := by rfl) (hs : starEach [a] X.env = [(false, eval a X.env)] := by rfl) : PI X tg (.Call (.Name "range" p) [a] [] pos) (tI cls W (rangeD fa)) := by
  refine ⟨fun pins s σ H Q I0 h => (pi_range1 hg hm (pa_cons ha pa_nil hs) hs).run pins s σ H Q I0 ?_⟩
  obtain ⟨B, S, ρ, g, I, h⟩ := h
  unfold rangeD at h
  refine ⟨B, S, ρ, g, I, ?_⟩
  cases ea : fa ρ g with
  | bad => rw [ea] at h; exact False.elim h
  | ex n g1 => rw [ea] at h; exact h
  | ok x g1 =>
    rw [ea] at h
    simp only [R.bind_ok] at h
    intro v H1 S1 I1 e1 r1
    cases r1 with
    | int n =>
      simp only at h
      by_cases hn : n ≤ (big : Int) ∧ -(big : Int) ≤ n
      · rw [if_pos hn] at h
        have hb : (big : Int) = 1000000 := rfl
        exact ⟨n, rfl, by omega, by omega, h _ H1 S1 I1 e1 (it_rng S1 0 n.toNat)⟩
      · rw [if_neg hn] at h
        exact False.elim h
    | _ => exact False.elim h
@[simp] def range2D (f f2 : Ex) : Ar := fun ρ g => (f ρ g).bind fun d g1 => (f2 ρ g1).bind fun e g2 => match d, e with
  | .int n, .int m => if n ≤ (big : Int) ∧ -(big : Int) ≤ n ∧ m ≤ (big : Int) ∧ -(big : Int) ≤ m then .ok (upFrom n (m - n).toNat) g2 else .bad
  | _, _ => .bad
theorem pid_range2 {p : Pos} (hm : X.mg "range" = none) (ha : PE X a (tE cls W fa)) (hb : PE X b (tE cls W fb)) (hg : Gl X "range" := by rfl) (hs : starEach [a, b] X.env = [(false, eval a X.env), (false, eval b X.env)] := by rfl) (hs2 : starEach [b] X.env = [(false, eval b X.env)] := by rfl) (hs3 : starEach [a, b] X.env = (false, eval a X.env) :: starEach [b] X.env := by rfl) (hs4 : starEach [b] X.env = (false, eval b X.env) :: starEach [] X.env := by rfl) :
    PI X tg (.Call (.Name "range" p) [a, b] [] pos) (tI cls W (range2D fa fb)) := by
  refine ⟨fun pins s σ H Q I0 h => (pi_range2 hg hm (pa_cons ha (pa_cons hb pa_nil hs4) hs3) hs hs2).run pins s σ H Q I0 ?_⟩
  obtain ⟨B, S, ρ, g, I, h⟩ := h
  unfold range2D at h
  refine ⟨B, S, ρ, g, I, ?_⟩
  cases ea : fa ρ g with
  | bad => rw [ea] at h; exact False.elim h
  | ex n g1 => rw [ea] at h; exact h
  | ok x g1 =>
    rw [ea] at h
    simp only [R.bind_ok] at h
    intro v H1 S1 I1 e1 r1
    refine ⟨B, S1, ρ, g1, I1, ?_⟩
    cases eb : fb ρ g1 with
    | bad => rw [eb] at h; exact False.elim h
    | ex n g2 =>
      rw [eb] at h
      exact fun H' S' I' e' => h H' S' I' (e1.trans e')
    | ok y g2 =>
      rw [eb] at h
      simp only [R.bind_ok] at h
      intro u H2 S2 I2 e2 r2
      cases r1 with
      | int n =>
        cases r2 with
        | int m =>
          simp only at h
          by_cases hn : n ≤ (big : Int) ∧ -(big : Int) ≤ n ∧ m ≤ (big : Int) ∧ -(big : Int) ≤ m
          · rw [if_pos hn] at h
            have hb : (big : Int) = 1000000 := rfl
            exact ⟨n, m, rfl, ⟨by omega, by omega, by omega, by omega⟩, h _ H2 S2 I2 (e1.trans e2) (it_rng S2 n (m - n).toNat)⟩
          · rw [if_neg hn] at h
            exact False.elim h
        | _ => exact False.elim h
      | _ => exact False.elim h
end

/-! ### targets -/
/-- only these slots have changed -/
structure Chg (ts : List Nat) (σ σ' : L2.St) : Prop where
  len : σ'.length = σ.length
  out : ∀ i, i ∉ ts → σ'[i]? = σ[i]?
theorem wipe_in : ∀ {vs : List Nat} {σ : L2.St} {i : Nat}, i ∈ vs → i < σ.length → (wipe σ vs)[i]? = some none
  | v :: vs, σ, i, h, hl => by
    unfold wipe
    by_cases hv : v = i
    · subst hv
      exact List.getElem?_set_self (by rw [wipe_length]; exact hl)
    · rw [List.getElem?_set_ne hv]
      exact wipe_in ((List.mem_cons.mp h).resolve_left fun z => hv z.symm) hl
theorem Chg.wipe {ts vs : List Nat} {σ σ' : L2.St} (c : Chg ts σ σ') (h : ∀ i ∈ ts, i ∈ vs) : L2.wipe σ' vs = L2.wipe σ vs := by
  refine List.ext_getElem? fun i => ?_
  by_cases hi : i ∈ vs
  · by_cases hl : i < σ.length
    · rw [wipe_in hi hl, wipe_in hi (by rw [c.len]; exact hl)]
    · rw [List.getElem?_eq_none (by rw [wipe_length, c.len]; exact Nat.le_of_not_lt hl), List.getElem?_eq_none (by rw [wipe_length]; exact Nat.le_of_not_lt hl)]
  · rw [wipe_out hi, wipe_out hi]
    exact c.out i fun z => hi (h i z)
abbrev Tg := PyData → Nv → Option Nv
def tG (ts : List Nat) (f : Tg) : TG := fun v σ H Q => ∃ B S ρ g d ρ', Good B σ H S ρ g ∧ Rp S v d ∧ f d ρ = some ρ' ∧ ∀ σ', Good B σ' H S ρ' g → Chg ts σ σ' → Q σ' H
theorem Good.setSh {B : Bs} {σ : L2.St} {H S : Hp} {ρ : Nv} {g : G} (I : Good B σ H S ρ g) (i : Nat) {v : V} {d : PyData} (r : Rp S v d) : Good B (σ.set i (some v)) H S (ρ.set i (.sh d)) g := by
  have key : ∀ (j : Nat) (z : Sl), (ρ.set i (.sh d))[j]? = some z → (j = i ∧ z = .sh d ∧ i < ρ.length) ∨ (j ≠ i ∧ ρ[j]? = some z) := fun j z h => by
    by_cases hj : j = i
    · subst hj
      by_cases hl : j < ρ.length
      · rw [List.getElem?_set_self hl] at h
        exact .inl ⟨rfl, (Option.some.inj h).symm, hl⟩
      · rw [List.getElem?_eq_none (by rw [List.length_set]; exact Nat.le_of_not_lt hl)] at h
        cases h
    · rw [List.getElem?_set_ne (Ne.symm hj)] at h
      exact .inr ⟨hj, h⟩
  have at_ne : ∀ j, j ≠ i → (σ.set i (some v))[j]? = σ[j]? := fun j hj => List.getElem?_set_ne (Ne.symm hj)
  refine ⟨I.toFin, by rw [List.length_set, List.length_set]; exact I.len, fun j d' h => ?_, fun j h => ?_, fun j h => ?_, fun j b h => ?_, fun j l b c a h1 h2 h3 h4 => ?_⟩
  · rcases key j _ h with ⟨rfl, e, hl⟩ | ⟨hj, h⟩
    · cases e
      exact ⟨v, List.getElem?_set_self (by rw [I.len]; exact hl), r⟩
    · rw [at_ne j hj]; exact I.sh j d' h
  · rcases key j _ h with ⟨rfl, e, hl⟩ | ⟨hj, h⟩
    · cases e
    · rw [at_ne j hj]; exact I.dw j h
  · rcases key j _ h with ⟨rfl, e, hl⟩ | ⟨hj, h⟩
    · cases e
    · rw [at_ne j hj]; exact I.sw j h
  · rcases key j _ h with ⟨rfl, e, hl⟩ | ⟨hj, h⟩
    · cases e
    · rw [at_ne j hj]; exact I.ow j b h
  · rcases key j _ h1 with ⟨rfl, e, hl⟩ | ⟨hj, h1⟩
    · cases e
    · rcases key l _ h2 with ⟨rfl, e, hl⟩ | ⟨hl, h2⟩
      · cases e
      · rw [at_ne j hj] at h3
        rw [at_ne l hl] at h4
        exact I.ap j l b c a h1 h2 h3 h4
theorem chg_set (σ : L2.St) (i : Nat) (v : Option V) : Chg [i] σ (σ.set i v) := ⟨List.length_set, fun j hj => List.getElem?_set_ne fun z => hj (by rw [z]; exact List.mem_cons_self)⟩
theorem Chg.trans {ts us : List Nat} {σ σ1 σ2 : L2.St} (a : Chg ts σ σ1) (b : Chg us σ1 σ2) : Chg (ts ++ us) σ σ2 := ⟨b.len.trans a.len, fun i hi => (b.out i fun z => hi (List.mem_append_right _ z)).trans (a.out i fun z => hi (List.mem_append_left _ z))⟩
@[simp] def nameT (i : Nat) : Tg := fun d ρ => some (ρ.set i (.sh d))
abbrev Tgs := List PyData → Nv → Option Nv
@[simp] def nilT : Tgs := fun ds ρ => match ds with
  | [] => some ρ
  | _ => none
@[simp] def consT (t : Tg) (u : Tgs) : Tgs := fun ds ρ => match ds with
  | d :: r => (t d ρ).bind fun ρ1 => u r ρ1
  | _ => none
@[simp] def tupT (u : Tgs) : Tg := fun d ρ => match d with
  | .tuple ds => u ds ρ
  | _ => none
def tGs (ts : List Nat) (f : Tgs) : TGs := fun vs σ H Q => ∃ B S ρ g ds ρ', Good B σ H S ρ g ∧ Rps S vs ds ∧ f ds ρ = some ρ' ∧ ∀ σ', Good B σ' H S ρ' g → Chg ts σ σ' → Q σ' H
section
variable {X : Cx} {pos : Pos}
theorem PG_imp {e : Expr} {t t' : TG} (h : PG X e t) (hi : ∀ v σ H Q, t' v σ H Q → t v σ H Q) : PG X e t' := ⟨fun pins s σ H v u Q I r q => h.run pins s σ H v u Q I r (hi _ _ _ _ q)⟩
theorem PGs_imp {e : List Expr} {t t' : TGs} (h : PGs X e t) (hi : ∀ v σ H Q, t' v σ H Q → t v σ H Q) : PGs X e t' := ⟨fun pins s σ H v u Q I r q => h.run pins s σ H v u Q I r (hi _ _ _ _ q)⟩
theorem pgd_name (i : Nat) {x : Str} (hN : X.N.Nodup) (hi : X.N[i]? = some x := by rfl) (hx : Loc X.env.scope x := by first | exact Or.inl rfl | exact Or.inr rfl) (hf : X.fn x = true ∨ X.env.scope.names.lookup x = some .local := by first | exact .inl rfl | exact .inr rfl | assumption) :
    PG X (.Name x pos) (tG [i] (nameT i)) := PG_imp (pg_name hN hi hx hf) fun v σ H Q ⟨B, S, ρ, g, d, ρ', I, r, e, k⟩ => by
  cases e
  exact k _ (I.setSh i r) (chg_set σ i _)
theorem pgsd_nil : PGs X [] (tGs [] nilT) := PGs_imp pgs_nil fun v σ H Q ⟨B, S, ρ, g, d, ρ', I, r, e, k⟩ => by
  cases r with
  | nil => cases e; exact ⟨rfl, k _ I ⟨rfl, fun _ _ => rfl⟩⟩
  | cons _ _ => cases e
theorem pgsd_cons {e : Expr} {es : List Expr} {t : Tg} {u : Tgs} {ts us : List Nat} (h1 : PG X e (tG ts t)) (h2 : PGs X es (tGs us u)) (hs : (assignEach (e :: es) X.env).map (·.2) = assign e X.env :: (assignEach es X.env).map (·.2) := by rfl) :
    PGs X (e :: es) (tGs (ts ++ us) (consT t u)) := PGs_imp (pgs_cons h1 h2 hs) fun v σ H Q ⟨B, S, ρ, g, ds, ρ', I, r, e, k⟩ => by
  cases r with
  | nil => cases e
  | @cons v1 d1 vs1 ds1 r1 rr =>
    have e' : (t d1 ρ).bind (fun ρ1 => u ds1 ρ1) = some ρ' := e
    cases et : t d1 ρ with
    | none => rw [et] at e'; cases e'
    | some ρ1 =>
      rw [et] at e'
      exact ⟨v1, vs1, rfl, B, S, ρ, g, d1, ρ1, I, r1, et, fun σ1 I1 c1 => ⟨B, S, ρ1, g, ds1, ρ', I1, rr, e', fun σ2 I2 c2 => k σ2 I2 (c1.trans c2)⟩⟩
theorem pgd_tup {es : List Expr} {k : Nat} {u : Tgs} {us : List Nat} {n : Nat} (hc : X.calm = true) (h : PGs X es (tGs us u)) (hu : ∀ ds ρ ρ', u ds ρ = some ρ' → ds.length = n)
    (hn : (assignEach es X.env).length = n := by rfl) (hst : (assignEach es X.env).findIdx? (·.1) = none := by rfl) : PG X (.Tuple es k pos) (tG us (tupT u)) := PG_imp (pg_tup hc h hn hst) fun v σ H Q ⟨B, S, ρ, g, d, ρ', I, r, e, k⟩ => by
  cases r with
  | @tup a xs ds hx qx => exact ⟨a, xs, rfl, .of (I.sub _ _ hx), qx.length.trans (hu ds ρ ρ' e), B, S, ρ, g, ds, ρ', I, qx, e, k⟩
  | _ => cases e
end
theorem len2 {i j : Nat} (ds : List PyData) (ρ ρ' : Nv) (h : consT (nameT i) (consT (nameT j) nilT) ds ρ = some ρ') : ds.length = 2 := by
  match ds, h with
  | [_, _], _ => rfl
  | [], h => cases h
  | [_], h => cases h
  | _ :: _ :: _ :: _, h => cases h
theorem len3 {i j k : Nat} (ds : List PyData) (ρ ρ' : Nv) (h : consT (nameT i) (consT (nameT j) (consT (nameT k) nilT)) ds ρ = some ρ') : ds.length = 3 := by
  match ds, h with
  | [_, _, _], _ => rfl
  | [], h => cases h
  | [_], h => cases h
  | [_, _], h => cases h
  | _ :: _ :: _ :: _ :: _, h => cases h
theorem len4 {i j k l : Nat} (ds : List PyData) (ρ ρ' : Nv) (h : consT (nameT i) (consT (nameT j) (consT (nameT k) (consT (nameT l) nilT))) ds ρ = some ρ') : ds.length = 4 := by
  match ds, h with
  | [_, _, _, _], _ => rfl
  | [], h => cases h
  | [_], h => cases h
  | [_, _], h => cases h
  | [_, _, _], h => cases h
  | _ :: _ :: _ :: _ :: _ :: _, h => cases h

/-! ### list comprehensions -/
@[simp] def wipeD (ρ : Nv) : List Nat → Nv
  | [] => ρ
  | v :: vs => (wipeD ρ vs).set v .no
theorem Good.setNo {B : Bs} {σ : L2.St} {H S : Hp} {ρ : Nv} {g : G} (I : Good B σ H S ρ g) (i : Nat) (v : Option V) : Good B (σ.set i v) H S (ρ.set i .no) g := by
  have key : ∀ (j : Nat) (z : Sl), z ≠ .no → (ρ.set i .no)[j]? = some z → j ≠ i ∧ ρ[j]? = some z := fun j z hz h => by
    by_cases hj : j = i
    · subst hj
      by_cases hl : j < ρ.length
      · rw [List.getElem?_set_self hl] at h
        exact absurd (Option.some.inj h).symm hz
      · rw [List.getElem?_eq_none (by rw [List.length_set]; exact Nat.le_of_not_lt hl)] at h
        cases h
    · rw [List.getElem?_set_ne (Ne.symm hj)] at h
      exact ⟨hj, h⟩
  have at_ne : ∀ j, j ≠ i → (σ.set i v)[j]? = σ[j]? := fun j hj => List.getElem?_set_ne (Ne.symm hj)
  refine ⟨I.toFin, by rw [List.length_set, List.length_set]; exact I.len, fun j d' h => ?_, fun j h => ?_, fun j h => ?_, fun j b h => ?_, fun j l b c a h1 h2 h3 h4 => ?_⟩
  · obtain ⟨hj, h⟩ := key j (.sh d') (fun z => nomatch z) h
    rw [at_ne j hj]; exact I.sh j d' h
  · obtain ⟨hj, h⟩ := key j .dr (fun z => nomatch z) h
    rw [at_ne j hj]; exact I.dw j h
  · obtain ⟨hj, h⟩ := key j .sc (fun z => nomatch z) h
    rw [at_ne j hj]; exact I.sw j h
  · obtain ⟨hj, h⟩ := key j (.ow b) (fun z => nomatch z) h
    rw [at_ne j hj]; exact I.ow j b h
  · obtain ⟨hj, h1⟩ := key j (.ow b) (fun z => nomatch z) h1
    obtain ⟨hl, h2⟩ := key l (.ow c) (fun z => nomatch z) h2
    rw [at_ne j hj] at h3
    rw [at_ne l hl] at h4
    exact I.ap j l b c a h1 h2 h3 h4
theorem Good.wiped {B : Bs} {σ : L2.St} {H S : Hp} {ρ : Nv} {g : G} (I : Good B σ H S ρ g) : ∀ vs : List Nat, Good B (wipe σ vs) H S (wipeD ρ vs) g
  | [] => I
  | v :: vs => (I.wiped vs).setNo v none
/-- a slot set or an evaluation does not need the other slots: the state of the outer slots behind growth -/
theorem Good.back {B : Bs} {σ σ1 : L2.St} {H S H1 S1 : Hp} {ρ ρ1 : Nv} {g g1 : G} (I : Good B σ H S ρ g) (I1 : Good B σ1 H1 S1 ρ1 g1) (e : Gr B H S H1 S1) : Good B σ H1 S1 ρ g1 := I.grow e I1.sub I1.dr
def compD (tg : Tg) (cond : Te) (elt : Ex) : List PyData → Nv → G → R (List PyData)
  | [], _, g => .ok [] g
  | d :: ds, ρ, g => match tg d ρ with
    | none => .bad
    | some ρ1 => match cond ρ1 g with
      | .ok true g1 => match elt ρ1 g1 with
        | .ok x g2 => (compD tg cond elt ds ρ g2).bind fun xs g3 => .ok (x :: xs) g3
        | _ => .bad
      | .ok false g1 => compD tg cond elt ds ρ g1
      | _ => .bad
@[simp] def yesT : Te := fun _ g => .ok true g
@[simp] def lcO (fi : Ar) (own : List Nat) (tg : Tg) (cond : Te) (elt : Ex) : Ow := fun ρ g => (fi ρ g).bind fun ds g1 => if ds.length ≤ big then (compD tg cond elt ds (wipeD ρ own) g1).bind fun xs g2 => .ok (.lst xs) g2 else .bad
theorem compD_noex {tg : Tg} {cond : Te} {elt : Ex} : ∀ {ds : List PyData} {ρ : Nv} {g g' : G} {n : Nat}, compD tg cond elt ds ρ g ≠ .ex n g'
  | [], ρ, g, g', n, h => by cases h
  | d :: ds, ρ, g, g', n, h => by
    unfold compD at h
    split at h
    · cases h
    · split at h
      · split at h
        · rename_i x g2 _
          cases e : compD tg cond elt ds _ g2 with
          | ok a g3 => rw [e] at h; cases h
          | ex n2 g3 => exact compD_noex e
          | bad => rw [e] at h; cases h
        · cases h
      · exact compD_noex h
      · cases h
/-- no exception may leave a comprehension's step -/
abbrev W0 : WX := fun _ _ _ _ => False
section
variable {X : Cx} {cls : Nat → Value} {W : WX} {pos : Pos}
theorem PTs_imp {e : List Expr} {t t' : TT} (h : PTs X e t) (hi : ∀ σ H Q, t' σ H Q → t σ H Q) : PTs X e t' := ⟨fun pins s σ H Q I q => h.run pins s σ H Q I (hi _ _ _ q)⟩
theorem ptsd_nil : PTs X [] (tT cls W yesT) := PTs_imp pts_nil fun σ H Q ⟨B, S, ρ, g, I, h⟩ => h H S I .refl
theorem ptsd_one {c : Expr} {f : Te} (h : PT X c (tT cls W f)) : PTs X [c] (tT cls W f) := pts_one h
/-- the reading of a comprehension -/
theorem lc_of {ts own : List Nat} {fi : Ar} {tg : Tg} {cond : Te} {elt : Ex} (hts : ∀ i ∈ ts, i ∈ own) (σ : L2.St) (H : Hp) (Q : VK) (h : tO cls W (lcO fi own tg cond elt) σ H Q) :
    tLc (tI cls W fi) (tG ts tg) (tT cls W0 cond) (tE cls W0 elt) own σ H Q := by
  obtain ⟨B, S, ρ, g, I, h⟩ := h
  unfold lcO at h
  refine ⟨B, S, ρ, g, I, ?_⟩
  cases ei : fi ρ g with
  | bad => rw [ei] at h; exact h
  | ex n g1 => rw [ei] at h; exact h
  | ok ds g1 =>
    rw [ei] at h
    simp only [R.bind_ok] at h
    by_cases hz : ds.length ≤ big
    · rw [if_pos hz] at h
      intro J H1 S1 I1 e1 it D hD
      have nD : H D = none := none_back e1 hD
      have hDA : B.live = true → D ≠ B.A := fun hl z => I1.neA hD hl z.symm
      obtain ⟨I2, e2⟩ := I1.allocO (o := .lst []) hD
      -- the walk's state: the list so far, what is left
      refine ⟨fun i m H' => i + m = ds.length ∧ ∃ S' g' vs xs, Good B σ H' S' ρ g' ∧ Gr B (upd H1 D (.lst [])) S1 (upd H' D (.lst [])) S' ∧ H' D = some (.lst vs) ∧ S' D = none ∧ Rps S' vs xs ∧ vs.length ≤ i ∧
        OO cls W B σ H S ρ Q ((compD tg cond elt (ds.drop i) (wipeD ρ own) g').bind fun ys g2 => .ok (.lst (xs ++ ys)) g2), ?_, ?_⟩
      · exact ⟨ds.length, by omega, S1, g1, [], [], I2, by rw [upd_upd]; exact .refl, upd_same, I1.stay hD, .nil, Nat.le_refl _, h⟩
      · rintro i m H' ⟨him, S', g', vs, xs, I3, e3, hv, sD, rv, hvl, h3⟩
        have e3' : Same S1 S' := e3.base
        by_cases hi : i < ds.length
        · refine .inr ⟨it.go i H' hi (e3'.trans I3.sub), fun H'' => ∃ m', m' < m ∧ (i + 1 + m' = ds.length ∧ ∃ S' g' vs xs, Good B σ H'' S' ρ g' ∧ Gr B (upd H1 D (.lst [])) S1 (upd H'' D (.lst [])) S' ∧ H'' D = some (.lst vs) ∧ S' D = none ∧ Rps S' vs xs ∧ vs.length ≤ i + 1 ∧
            OO cls W B σ H S ρ Q ((compD tg cond elt (ds.drop (i + 1)) (wipeD ρ own) g').bind fun ys g2 => .ok (.lst (xs ++ ys)) g2)), fun H'' z => z, fun x H4 hy => ?_⟩
          obtain ⟨d, S4, hd, gr1, rd⟩ := it.yld i H' S' x H4 hi e3' I3.sub hy
          obtain ⟨I4, e4⟩ := gr1.good I3
          have hdrop : ds.drop i = d :: ds.drop (i + 1) := by
            rw [List.drop_eq_getElem_cons hi]
            rw [List.getElem?_eq_getElem hi] at hd
            rw [Option.some.inj hd]
          rw [hdrop] at h3
          unfold compD at h3
          -- growth goes on beside D
          have step : ∀ {H5 S5 : Hp}, Gr B H' S' H5 S5 → Gr B (upd H1 D (.lst [])) S1 (upd H5 D (.lst [])) S5 := fun {H5 S5} e => by
            refine e3.trans ⟨fun a o q n => ?_, e.base, fun a q => ?_, fun a q => ?_⟩
            · by_cases ha : a = D
              · subst ha; rw [upd_same] at q ⊢; exact q
              · rw [upd_ne ha] at q ⊢; exact e.keep a o q n
            · rcases e.new a q with z | z
              · exact .inl z
              · by_cases ha : a = D
                · subst ha; rw [hv] at z; cases z
                · exact .inr (by rw [upd_ne ha]; exact z)
            · by_cases ha : a = D
              · subst ha; rw [upd_same]; simp
              · rw [upd_ne ha] at q ⊢; exact e.there a q
          cases et : tg d (wipeD ρ own) with
          | none => simp only [et, R.bind_bad] at h3; exact False.elim h3
          | some ρ1 =>
            simp only [et] at h3
            refine ⟨B, S4, wipeD ρ own, g', d, ρ1, I4.wiped own, rd, et, fun σ1 I5 ch => ⟨by rw [ch.wipe hts]; exact (Chg.wipe (ts := own) ⟨by rw [wipe_length], fun j hj => wipe_out hj⟩ fun _ z => z), B, S4, ρ1, g', I5, ?_⟩⟩
            cases ec : cond ρ1 g' with
            | bad => simp only [ec, R.bind_bad] at h3; exact False.elim h3
            | ex n g5 => simp only [ec, R.bind_bad] at h3; exact False.elim h3
            | ok b g5 =>
              intro H6 S6 I6 e6
              have I6' := (I4.back I6 e6)
              have e46 : Gr B H' S' H6 S6 := e4.trans e6
              cases b with
              | false =>
                rw [if_neg Bool.false_ne_true]
                simp only [ec] at h3
                exact ⟨m - 1, by omega, by omega, S6, g5, vs, xs, I6', step e46, e46.keep D _ hv hDA, none_of e46 (by rw [hv]; simp) sD, rv.mono e46.base, by omega, h3⟩
              | true =>
                rw [if_pos rfl]
                simp only [ec] at h3
                refine ⟨B, S6, ρ1, g5, I6, ?_⟩
                cases ee : elt ρ1 g5 with
                | bad => simp only [ee, R.bind_bad] at h3; exact False.elim h3
                | ex n g6 => simp only [ee, R.bind_bad] at h3; exact False.elim h3
                | ok y g6 =>
                  simp only [ee] at h3
                  intro v H7 S7 I7 e7 r7
                  have I7' := I6'.back I7 e7
                  have e77 : Gr B H' S' H7 S7 := e46.trans e7
                  have hD7 := e77.keep D _ hv hDA
                  have sD7 := none_of e77 (by rw [hv]; simp) sD
                  refine ⟨vs, hD7, big_lt (by omega), m - 1, by omega, by omega, S7, g6, vs ++ [v], xs ++ [y], ?_, by rw [upd_upd]; exact step e77, upd_same, sD7, (rv.mono e77.base).append (.cons r7 .nil), by rw [List.length_append]; exact Nat.succ_le_succ hvl, ?_⟩
                  · -- the list at D is nobody's
                    have eD : Gr B H7 S7 (upd H7 D (.lst (vs ++ [v]))) S7 ∨ True := .inr trivial
                    refine ⟨⟨fun a o q => ?_, fun a o q n => ?_, I7'.base, I7'.new, fun a q => ?_, I7'.no, ?_⟩, I7'.len, I7'.sh, I7'.dw, I7'.sw, fun j b q => ?_, I7'.ap⟩
                    · rw [upd_ne (ne_of_none q sD7)]; exact I7'.sub _ _ q
                    · have hB : B.H D = none := by
                        cases z : B.H D with
                        | none => rfl
                        | some u => exact absurd nD (I.there D (by rw [z]; simp))
                      rw [upd_ne (ne_of_none q hB)]; exact I7'.keep a o q n
                    · by_cases ha : a = D
                      · subst ha; rw [upd_same]; simp
                      · rw [upd_ne ha]; exact I7'.there a q
                    · exact I7'.dr.mono (Same.refl _) fun hl => upd_ne (Ne.symm (hDA hl))
                    · obtain ⟨a, o, h1, h2, h4, h5, h6, h7⟩ := I7'.ow j b q
                      obtain ⟨a', o', k1, _, _, _, k5, _⟩ := I.ow j b q
                      have ea : a' = a := by
                        rw [h1] at k1
                        injection k1 with k1
                        injection k1 with k1
                        injection k1 with k1
                        exact k1.symm
                      subst ea
                      have hne : a' ≠ D := fun z => by rw [z, nD] at k5; cases k5
                      exact ⟨a', o, h1, h2, h4, h5, by rw [upd_ne hne]; exact h6, h7⟩
                  · cases eR : compD tg cond elt (ds.drop (i + 1)) (wipeD ρ own) g6 with
                    | bad => rw [eR] at h3; exact h3
                    | ex n g7 => exact absurd eR compD_noex
                    | ok ys g7 =>
                      rw [eR] at h3
                      simp only [R.bind_ok] at h3 ⊢
                      rw [List.append_assoc]
                      exact h3
        · have hdrop : ds.drop i = [] := List.drop_eq_nil_of_le (by omega)
          rw [hdrop] at h3
          simp only [compD, R.bind_ok, List.append_nil] at h3
          refine .inl ⟨it.stop i H' (by omega) (e3'.trans I3.sub), ?_⟩
          refine h3 D (.lst vs) H' S' I3 ?_ sD nD hv (.lst rv)
          refine e1.trans ⟨fun a o q n => ?_, e3.base, fun a q => ?_, fun a q => ?_⟩
          · have ha : a ≠ D := ne_of_none q hD
            have z := e3.keep a o (by rw [upd_ne ha]; exact q) n
            rw [upd_ne ha] at z
            exact z
          · rcases e3.new a q with z | z
            · exact .inl z
            · by_cases ha : a = D
              · subst ha; exact .inr hD
              · rw [upd_ne ha] at z; exact .inr z
          · by_cases ha : a = D
            · subst ha; rw [hv]; simp
            · have z := e3.there a (by rw [upd_ne ha]; exact q)
              rw [upd_ne ha] at z
              exact z
    · rw [if_neg hz] at h
      exact False.elim h
theorem po_lc {elt tg iter : Expr} {ifs : List Expr} {scope : Scope} {own : List (Str × Nat)} {ts : List Nat} {fi : Ar} {ft : Tg} {fc : Te} {fe : Ex} (hc : X.calm = true) (hN : X.N.Nodup) (hi : PI X tg iter (tI cls W fi)) (ok : BlkOk X.N X.env.scope scope own)
    (hg : ∀ (s : Shared) (H : Hp) (C : Addr) (cl : List (Str × Addr)) (fp : List Addr), PG (X.blk s H scope (compEnvC scope cl C X.env) fp) tg (tG ts ft)) (ht : ∀ (s : Shared) (H : Hp) (C : Addr) (cl : List (Str × Addr)) (fp : List Addr), PTs (X.blk s H scope (compEnvC scope cl C X.env) fp) ifs (tT cls W0 fc))
    (he : ∀ (s : Shared) (H : Hp) (C : Addr) (cl : List (Str × Addr)) (fp : List Addr), PE (X.blk s H scope (compEnvC scope cl C X.env) fp) elt (tE cls W0 fe)) (hts : ∀ i ∈ ts, i ∈ own.map (·.2) := by decide) (hs : ∀ x, foldedSetIterable iter X.env x = pure x := by intro _; rfl) :
    PE X (.ListComp elt [⟨tg, iter, ifs, 0⟩] scope pos) (tO cls W (lcO fi (own.map (·.2)) ft fc fe)) := PE_imp (pe_lc hc hN hi ok hg ht he hs) (lc_of hts)
end
end DL

set_option Elab.async false
set_option linter.all false
set_option maxRecDepth 100000
set_option maxHeartbeats 400000
namespace DL
open PySem PySem.Spec PyProof.Rows L2

/-! ### statements -/
inductive SR where
  | nx (ρ : Nv) (g : G) | rt (d : PyData) (g : G) | bk (ρ : Nv) (g : G) | ct (ρ : Nv) (g : G) | ex (n : Nat) (ρ : Nv) (g : G) | bad
abbrev Sm := Nv → G → SR
section
variable (cls : Nat → Value) (W : WX)
def SO (B : Bs) (S : Hp) (D : Ends) : SR → Prop
  | .nx ρ g => ∀ σ' H' S', Good B σ' H' S' ρ g → Same S S' → D.nx σ' H'
  | .rt d g => ∀ v H' S', Fin B H' S' g → Rp S' v d → D.rt v H'
  | .bk ρ g => ∀ σ' H' S', Good B σ' H' S' ρ g → Same S S' → D.bk σ' H'
  | .ct ρ g => ∀ σ' H' S', Good B σ' H' S' ρ g → Same S S' → D.ct σ' H'
  | .ex n ρ g => ∀ σ' H' S', Good B σ' H' S' ρ g → Same S S' → W (cls n) none σ' H'
  | .bad => False
def tS (s : Sm) : TS := fun D σ H => ∃ B S ρ g, Good B σ H S ρ g ∧ SO cls W B S D (s ρ g)
end
section
variable {X : Cx} {cls : Nat → Value} {W : WX} {pos : Pos} {a b c : Expr} {fa fb fc : Ex} {D : Ends} {σ : L2.St} {H : Hp} {st : Stmt} {rest : List Stmt}
theorem SO_gr {B : Bs} {S S1 : Hp} {r : SR} (e : Same S S1) (h : SO cls W B S D r) : SO cls W B S1 D r := by
  cases r with
  | nx ρ g => exact fun σ' H' S' I u => h σ' H' S' I (e.trans u)
  | rt d g => exact h
  | bk ρ g => exact fun σ' H' S' I u => h σ' H' S' I (e.trans u)
  | ct ρ g => exact fun σ' H' S' I u => h σ' H' S' I (e.trans u)
  | ex n ρ g => exact fun σ' H' S' I u => h σ' H' S' I (e.trans u)
  | bad => exact h
@[simp] def stE (f : Ex) (k : PyData → Sm) : Sm := fun ρ g => match f ρ g with
  | .ok d g1 => k d ρ g1
  | .ex n g1 => .ex n ρ g1
  | .bad => .bad
theorem st_of {f : Ex} {k : PyData → Sm} {Q : VK} (h : tS cls W (stE f k) D σ H) (hq : ∀ B S ρ g d v H1, Good B σ H1 S ρ g → Rp S v d → SO cls W B S D (k d ρ g) → Q v H1) : tE cls W f σ H Q := by
  obtain ⟨B, S, ρ, g, I, h⟩ := h
  unfold stE at h
  refine ⟨B, S, ρ, g, I, ?_⟩
  cases ea : f ρ g with
  | bad => rw [ea] at h; exact h
  | ex n g1 =>
    rw [ea] at h
    exact fun H' S' I' e => h σ H' S' I' e.base
  | ok x g1 =>
    rw [ea] at h
    exact fun v H1 S1 I1 e1 r1 => hq B S1 ρ g1 x v H1 I1 r1 (SO_gr e1.base h)
def setS (i : Nat) (f : Ex) : Sm := stE f fun d ρ g => .nx (ρ.set i (.sh d)) g
theorem psd_set (i : Nat) {x : Str} {pos' : Pos} (hN : X.N.Nodup) (ha : PE X a (tE cls W fa)) (hi : X.N[i]? = some x := by rfl) (hx : Loc X.env.scope x := by first | exact Or.inl rfl | exact Or.inr rfl) (hs : swapsWith a (some (.Name x pos')) pos.line X.env = pure false := by rfl)
    (hf : X.fn x = true ∨ X.env.scope.names.lookup x = some .local := by first | exact .inl rfl | exact .inr rfl | assumption) : PS X (.Assign [.Name x pos'] a pos) (tS cls W (setS i fa)) :=
  PS_imp (ps_set hN hi hx ha hs hf) fun D σ H h => st_of h fun B S ρ g d v H1 I r q => q _ _ _ (I.setSh i r) (Same.refl _)
def asgS (f : Ex) (t : Tg) : Sm := stE f fun d ρ g => match t d ρ with
  | some ρ1 => .nx ρ1 g
  | none => .bad
theorem psd_asg {tg : Expr} {ts : List Nat} {t : Tg} (ha : PE X a (tE cls W fa)) (hg : PG X tg (tG ts t)) (hs : swapsWithSole [tg] a pos.line X.env = pure false := by rfl) (hw : swappedStores [tg] a X.env = pure none := by rfl)
    (h1 : (assignEach [tg] X.env).map (·.2) = [assign tg X.env] := by rfl) : PS X (.Assign [tg] a pos) (tS cls W (asgS fa t)) :=
  PS_imp (ps_asg ha hg hs hw h1) fun D σ H h => st_of h fun B S ρ g d v H1 I r q => by
    cases et : t d ρ with
    | none => simp only [et] at q; exact False.elim q
    | some ρ1 =>
      simp only [et] at q
      exact ⟨B, S, ρ, g, d, ρ1, I, r, et, fun σ' I' _ => q _ _ _ I' (Same.refl _)⟩
def dropS (f : Ex) : Sm := stE f fun _ ρ g => .nx ρ g
theorem psd_expr (ha : PE X a (tE cls W fa)) (hs : swapsWith a none pos.line X.env = pure false := by rfl) : PS X (.Expr a pos) (tS cls W (dropS fa)) :=
  PS_imp (ps_expr ha hs) fun D σ H h => st_of h fun B S ρ g d v H1 I r q => q _ _ _ I (Same.refl _)
def retS (f : Ex) : Sm := stE f fun d _ g => .rt d g
theorem psd_ret (ha : PE X a (tE cls W fa)) : PS X (.Return (some a) pos) (tS cls W (retS fa)) :=
  PS_imp (ps_ret ha) fun D σ H h => st_of h fun B S ρ g d v H1 I r q => q _ _ _ I.toFin r
@[simp] def nextS : Sm := fun ρ g => .nx ρ g
theorem psd_pass : PS X (.Pass pos) (tS cls W nextS) := PS_imp ps_pass fun D σ H ⟨B, S, ρ, g, I, h⟩ => h _ _ _ I (Same.refl _)
theorem psd_break : PS X (.Break pos) (tS cls W fun ρ g => .bk ρ g) := PS_imp ps_break fun D σ H ⟨B, S, ρ, g, I, h⟩ => h _ _ _ I (Same.refl _)
theorem psd_continue : PS X (.Continue pos) (tS cls W fun ρ g => .ct ρ g) := PS_imp ps_continue fun D σ H ⟨B, S, ρ, g, I, h⟩ => h _ _ _ I (Same.refl _)
@[simp] def seqS (s t : Sm) : Sm := fun ρ g => match s ρ g with
  | .nx ρ1 g1 => t ρ1 g1
  | r => r
theorem pssd_nil : PSs X [] (tS cls W nextS) := PSs_imp pss_nil fun D σ H ⟨B, S, ρ, g, I, h⟩ => h _ _ _ I (Same.refl _)
theorem pssd_cons {s t : Sm} (h1 : PS X st (tS cls W s)) (h2 : PSs X rest (tS cls W t)) : PSs X (st :: rest) (tS cls W (seqS s t)) := PSs_imp (pss_cons h1 h2) fun D σ H ⟨B, S, ρ, g, I, h⟩ => by
  unfold seqS at h
  refine ⟨B, S, ρ, g, I, ?_⟩
  cases es : s ρ g with
  | nx ρ1 g1 =>
    rw [es] at h
    exact fun σ' H' S' I' e => ⟨B, S', ρ1, g1, I', SO_gr e h⟩
  | rt d g1 => rw [es] at h; exact h
  | bk ρ1 g1 => rw [es] at h; exact h
  | ct ρ1 g1 => rw [es] at h; exact h
  | ex n ρ1 g1 => rw [es] at h; exact h
  | bad => rw [es] at h; exact h
theorem pssd_one {s : Sm} (h1 : PS X st (tS cls W s)) : PSs X [st] (tS cls W s) := pss_one h1
@[simp] def ifS (c : Te) (s t : Sm) : Sm := fun ρ g => match c ρ g with
  | .ok true g1 => s ρ g1
  | .ok false g1 => t ρ g1
  | .ex n g1 => .ex n ρ g1
  | .bad => .bad
theorem psd_if {ss ts : List Stmt} {tc : Te} {s t : Sm} (hc : PT X c (tT cls W tc)) (hs : PSs X ss (tS cls W s)) (ht : PSs X ts (tS cls W t)) : PS X (.If c ss ts pos) (tS cls W (ifS tc s t)) := PS_imp (ps_if hc hs ht) fun D σ H ⟨B, S, ρ, g, I, h⟩ => by
  unfold ifS at h
  refine ⟨B, S, ρ, g, I, ?_⟩
  cases es : tc ρ g with
  | bad => rw [es] at h; exact h
  | ex n g1 => rw [es] at h; exact fun H' S' I' e => h _ _ _ I' e.base
  | ok k g1 =>
    rw [es] at h
    intro H1 S1 I1 e1
    cases k with
    | true => exact ⟨B, S1, ρ, g1, I1, SO_gr e1.base h⟩
    | false => exact ⟨B, S1, ρ, g1, I1, SO_gr e1.base h⟩
/-- two names at once, from the right -/
@[simp] def parS (i j : Nat) (f k : Ex) : Sm := fun ρ g => match (f ρ g).bind fun x g1 => (k ρ g1).bind fun y g2 => R.ok (x, y) g2 with
  | .ok (x, y) g1 => .nx ((ρ.set i (.sh x)).set j (.sh y)) g1
  | .ex n g1 => .ex n ρ g1
  | .bad => .bad
theorem psd_par (i j : Nat) {x y : Str} {px py pt : Pos} {kt k2 pt2} (hc : X.calm = true) (hN : X.N.Nodup) (ha : PE X a (tE cls W fa)) (hb : PE X b (tE cls W fb)) (hi : X.N[i]? = some x := by rfl) (hj : X.N[j]? = some y := by rfl) (hij : i ≠ j := by decide)
    (hx : X.env.scope.names.lookup x = some .local := by rfl) (hy : X.env.scope.names.lookup y = some .local := by rfl)
    (hw : swappedStores [.Tuple [.Name x px, .Name y py] kt pt] (.Tuple [a, b] k2 pt2) X.env = pure (some [x, y]) := by rfl)
    (hs : swapsWithSole [.Tuple [.Name x px, .Name y py] kt pt] (.Tuple [a, b] k2 pt2) pos.line X.env = pure false := by rfl) (hsa : starEach [a, b] X.env = (false, eval a X.env) :: starEach [b] X.env := by rfl) (hsb : starEach [b] X.env = (false, eval b X.env) :: starEach [] X.env := by rfl) :
    PS X (.Assign [.Tuple [.Name x px, .Name y py] kt pt] (.Tuple [a, b] k2 pt2) pos) (tS cls W (parS i j fa fb)) :=
  PS_imp (ps_par hc hN hi hj hij hx hy (pa_cons ha (pa_cons hb pa_nil hsb) hsa) hw hs) fun D σ H ⟨B, S, ρ, g, I, h⟩ => by
    unfold parS at h
    refine ⟨B, S, ρ, g, I, ?_⟩
    cases ea : fa ρ g with
    | bad => rw [ea] at h; exact h
    | ex n g1 => rw [ea] at h; exact fun H' S' I' e => h _ _ _ I' e.base
    | ok u g1 =>
      rw [ea] at h
      intro v H1 S1 I1 e1 r1
      refine ⟨B, S1, ρ, g1, I1, ?_⟩
      simp only [R.bind_ok] at h
      cases eb : fb ρ g1 with
      | bad => rw [eb] at h; exact h
      | ex n g2 => rw [eb] at h; exact fun H' S' I' e => h _ _ _ I' (e1.base.trans e.base)
      | ok z g2 =>
        rw [eb] at h
        simp only [R.bind_ok] at h
        intro w H2 S2 I2 e2 r2
        exact ⟨v, w, rfl, h _ _ _ ((I2.setSh i (r1.mono e2.base)).setSh j r2) (e1.base.trans e2.base)⟩
end

/-! ### things of one's own -/
theorem addr_of {σ : L2.St} {i : Nat} {a b : Addr} (h : σ[i]? = some (some (.ref a))) (k : σ[i]? = some (some (.ref b))) : a = b := by
  rw [h] at k
  injection k with k
  injection k with k
  injection k with k
section
variable {B : Bs} {σ : L2.St} {H S : Hp} {ρ : Nv} {g : G}
/-- a thing of one's own is changed -/
theorem Good.mutO (I : Good B σ H S ρ g) {i : Nat} {b b' : Ob} {a : Addr} {o' : HO} (hi : ρ[i]? = some (.ow b)) (ha : σ[i]? = some (some (.ref a))) (r : ObAt S b' o') : Good B σ (upd H a o') S (ρ.set i (.ow b')) g := by
  obtain ⟨a', o, h1, h2, h3, h4, h5, h6⟩ := I.ow i b hi
  have e := addr_of ha h1
  subst e
  have hl : i < ρ.length := (List.getElem?_eq_some_iff.mp hi).1
  have key : ∀ (j : Nat) (z : Sl), (ρ.set i (.ow b'))[j]? = some z → (j = i ∧ z = .ow b') ∨ (j ≠ i ∧ ρ[j]? = some z) := fun j z h => by
    by_cases hj : j = i
    · subst hj
      rw [List.getElem?_set_self hl] at h
      exact .inl ⟨rfl, (Option.some.inj h).symm⟩
    · rw [List.getElem?_set_ne (Ne.symm hj)] at h
      exact .inr ⟨hj, h⟩
  have isow : ∀ (j : Nat) (c : Ob), (ρ.set i (.ow b'))[j]? = some (.ow c) → ∃ c', ρ[j]? = some (.ow c') := fun j c h => by
    rcases key j _ h with ⟨rfl, _⟩ | ⟨_, h⟩
    · exact ⟨b, hi⟩
    · exact ⟨c, h⟩
  refine ⟨⟨fun c o q => ?_, fun c o q n => ?_, I.base, I.new, fun c q => ?_, I.no, I.dr.mono (Same.refl _) fun hl => upd_ne (Ne.symm (h3 hl))⟩, by rw [List.length_set]; exact I.len, fun j d h => ?_, fun j h => ?_, fun j h => ?_, fun j c h => ?_, fun j l c d x k1 k2 k3 k4 => ?_⟩
  · rw [upd_ne (ne_of_none q h2)]; exact I.sub _ _ q
  · rw [upd_ne (ne_of_none q h4)]; exact I.keep c o q n
  · by_cases hc : c = a
    · subst hc; rw [upd_same]; simp
    · rw [upd_ne hc]; exact I.there c q
  · rcases key j _ h with ⟨rfl, e⟩ | ⟨_, h⟩
    · cases e
    · exact I.sh j d h
  · rcases key j _ h with ⟨rfl, e⟩ | ⟨_, h⟩
    · cases e
    · exact I.dw j h
  · rcases key j _ h with ⟨rfl, e⟩ | ⟨_, h⟩
    · cases e
    · exact I.sw j h
  · rcases key j _ h with ⟨rfl, e⟩ | ⟨hj, h⟩
    · cases e
      exact ⟨a, o', ha, h2, h3, h4, upd_same, r⟩
    · obtain ⟨x, u, q1, q2, q3, q4, q5, q6⟩ := I.ow j c h
      have hx : x ≠ a := fun z => hj (I.ap j i c b a h hi (by rw [q1, z]) ha)
      exact ⟨x, u, q1, q2, q3, q4, by rw [upd_ne hx]; exact q5, q6⟩
  · obtain ⟨c', k1⟩ := isow j c k1
    obtain ⟨d', k2⟩ := isow l d k2
    exact I.ap j l c' d' x k1 k2 k3 k4
/-- a thing of one's own becomes a datum -/
theorem Good.shut (I : Good B σ H S ρ g) {i : Nat} {ds : List PyData} (hi : ρ[i]? = some (.ow (.lst ds))) : ∃ S', Same S S' ∧ Good B σ H S' (ρ.set i (.sh (.list ds))) g := by
  obtain ⟨a, o, h1, h2, h3, h4, h5, h6⟩ := I.ow i _ hi
  have hl : i < ρ.length := (List.getElem?_eq_some_iff.mp hi).1
  cases h6 with
  | @lst _ vs r =>
    have sm : Same S (upd S a (.lst vs)) := fun c u q => by rw [upd_ne (ne_of_none q h2)]; exact q
    have key : ∀ (j : Nat) (z : Sl), (ρ.set i (.sh (.list ds)))[j]? = some z → (j = i ∧ z = .sh (.list ds)) ∨ (j ≠ i ∧ ρ[j]? = some z) := fun j z h => by
      by_cases hj : j = i
      · subst hj
        rw [List.getElem?_set_self hl] at h
        exact .inl ⟨rfl, (Option.some.inj h).symm⟩
      · rw [List.getElem?_set_ne (Ne.symm hj)] at h
        exact .inr ⟨hj, h⟩
    refine ⟨_, sm, ⟨fun c u q => ?_, I.keep, I.base.trans sm, fun c q => ?_, I.there, fun hl => by rw [upd_ne (Ne.symm (h3 hl))]; exact I.no hl, I.dr.mono sm fun _ => rfl⟩, by rw [List.length_set]; exact I.len, fun j d h => ?_, fun j h => ?_, fun j h => ?_, fun j c h => ?_, fun j l c d x k1 k2 k3 k4 => ?_⟩
    · by_cases hc : c = a
      · subst hc; rw [upd_same] at q; rw [← q]; exact h5
      · rw [upd_ne hc] at q; exact I.sub _ _ q
    · by_cases hc : c = a
      · subst hc; exact .inr h4
      · rw [upd_ne hc] at q; exact I.new c q
    · rcases key j _ h with ⟨rfl, e⟩ | ⟨_, h⟩
      · cases e
        exact ⟨.ref a, h1, .lst upd_same (r.mono sm)⟩
      · obtain ⟨v, q1, q2⟩ := I.sh j d h
        exact ⟨v, q1, q2.mono sm⟩
    · rcases key j _ h with ⟨rfl, e⟩ | ⟨_, h⟩
      · cases e
      · exact I.dw j h
    · rcases key j _ h with ⟨rfl, e⟩ | ⟨_, h⟩
      · cases e
      · exact I.sw j h
    · rcases key j _ h with ⟨rfl, e⟩ | ⟨hj, h⟩
      · cases e
      · obtain ⟨x, u, q1, q2, q3, q4, q5, q6⟩ := I.ow j c h
        have hx : x ≠ a := fun z => hj (I.ap j i c _ a h hi (by rw [q1, z]) h1)
        exact ⟨x, u, q1, by rw [upd_ne hx]; exact q2, q3, q4, q5, q6.mono sm⟩
    · rcases key j _ k1 with ⟨rfl, e⟩ | ⟨_, k1⟩
      · cases e
      · rcases key l _ k2 with ⟨rfl, e⟩ | ⟨_, k2⟩
        · cases e
        · exact I.ap j l c d x k1 k2 k3 k4
/-- a name takes a thing that nobody else holds -/
theorem Good.setOw {H0 S0 : Hp} {g0 : G} (I0 : Good B σ H0 S0 ρ g0) (I : Good B σ H S ρ g) {i : Nat} {b : Ob} {a : Addr} {o : HO} (n1 : S a = none) (n2 : H0 a = none) (ho : H a = some o) (r : ObAt S b o) : Good B (σ.set i (some (.ref a))) H S (ρ.set i (.ow b)) g := by
  have key : ∀ (j : Nat) (z : Sl), (ρ.set i (.ow b))[j]? = some z → (j = i ∧ z = .ow b ∧ i < ρ.length) ∨ (j ≠ i ∧ ρ[j]? = some z) := fun j z h => by
    by_cases hj : j = i
    · subst hj
      by_cases hl : j < ρ.length
      · rw [List.getElem?_set_self hl] at h
        exact .inl ⟨rfl, (Option.some.inj h).symm, hl⟩
      · rw [List.getElem?_eq_none (by rw [List.length_set]; exact Nat.le_of_not_lt hl)] at h
        cases h
    · rw [List.getElem?_set_ne (Ne.symm hj)] at h
      exact .inr ⟨hj, h⟩
  have at_ne : ∀ j, j ≠ i → (σ.set i (some (V.ref a)))[j]? = σ[j]? := fun j hj => List.getElem?_set_ne (Ne.symm hj)
  have other : ∀ (j : Nat) (c : Ob), ρ[j]? = some (.ow c) → σ[j]? ≠ some (some (.ref a)) := fun j c h z => by
    obtain ⟨x, u, q1, _, _, _, q5, _⟩ := I0.ow j c h
    have e := addr_of z q1
    subst e
    rw [n2] at q5
    cases q5
  refine ⟨I.toFin, by rw [List.length_set, List.length_set]; exact I.len, fun j d' h => ?_, fun j h => ?_, fun j h => ?_, fun j c h => ?_, fun j l c d x h1 h2 h3 h4 => ?_⟩
  · rcases key j _ h with ⟨rfl, e, hl⟩ | ⟨hj, h⟩
    · cases e
    · rw [at_ne j hj]; exact I.sh j d' h
  · rcases key j _ h with ⟨rfl, e, hl⟩ | ⟨hj, h⟩
    · cases e
    · rw [at_ne j hj]; exact I.dw j h
  · rcases key j _ h with ⟨rfl, e, hl⟩ | ⟨hj, h⟩
    · cases e
    · rw [at_ne j hj]; exact I.sw j h
  · rcases key j _ h with ⟨rfl, e, hl⟩ | ⟨hj, h⟩
    · cases e
      refine ⟨a, o, List.getElem?_set_self (by rw [I.len]; exact hl), n1, fun hl z => I0.neA n2 hl z.symm, ?_, ho, r⟩
      cases q : B.H a with
      | none => rfl
      | some u => exact absurd n2 (I0.there a (by rw [q]; simp))
    · rw [at_ne j hj]; exact I.ow j c h
  · rcases key j _ h1 with ⟨ej, e, hl⟩ | ⟨hj, k1⟩
    · rcases key l _ h2 with ⟨el, e2, hl2⟩ | ⟨hl2, k2⟩
      · rw [ej, el]
      · rw [ej, List.getElem?_set_self (by rw [I.len]; exact hl)] at h3
        rw [at_ne l hl2] at h4
        injection h3 with h3
        injection h3 with h3
        injection h3 with h3
        subst h3
        exact absurd h4 (other l d k2)
    · rcases key l _ h2 with ⟨el, e2, hl2⟩ | ⟨hl2, k2⟩
      · rw [el, List.getElem?_set_self (by rw [I.len]; exact hl2)] at h4
        rw [at_ne j hj] at h3
        injection h4 with h4
        injection h4 with h4
        injection h4 with h4
        subst h4
        exact absurd h3 (other j c k1)
      · rw [at_ne j hj] at h3
        rw [at_ne l hl2] at h4
        exact I.ap j l c d x k1 k2 h3 h4
end
section
variable {X : Cx} {cls : Nat → Value} {W : WX} {pos : Pos} {a b c : Expr} {fa fb fc : Ex} {D : Ends} {σ : L2.St} {H : Hp} {st : Stmt} {rest : List Stmt}
@[simp] def setOS (i : Nat) (f : Ow) : Sm := fun ρ g => match f ρ g with
  | .ok b g1 => .nx (ρ.set i (.ow b)) g1
  | .ex n g1 => .ex n ρ g1
  | .bad => .bad
theorem setOS_of {i : Nat} {f : Ow} (h : tS cls W (setOS i f) D σ H) : tO cls W f σ H fun x H1 => D.nx (σ.set i (some x)) H1 := by
  obtain ⟨B, S, ρ, g, I, h⟩ := h
  unfold setOS at h
  refine ⟨B, S, ρ, g, I, ?_⟩
  cases ea : f ρ g with
  | bad => rw [ea] at h; exact h
  | ex n g1 => rw [ea] at h; exact fun H' S' I' e => h σ H' S' I' e.base
  | ok b g1 =>
    rw [ea] at h
    exact fun a o H1 S1 I1 e1 n1 n2 ho r => h _ _ _ (I.setOw I1 n1 n2 ho r) e1.base
theorem psd_setO (i : Nat) {x : Str} {pos' : Pos} {fo : Ow} (hN : X.N.Nodup) (ha : PE X a (tO cls W fo)) (hi : X.N[i]? = some x := by rfl) (hx : Loc X.env.scope x := by first | exact Or.inl rfl | exact Or.inr rfl) (hs : swapsWith a (some (.Name x pos')) pos.line X.env = pure false := by rfl)
    (hf : X.fn x = true ∨ X.env.scope.names.lookup x = some .local := by first | exact .inl rfl | exact .inr rfl | assumption) : PS X (.Assign [.Name x pos'] a pos) (tS cls W (setOS i fo)) :=
  PS_imp (ps_set hN hi hx ha hs hf) fun D σ H h => setOS_of h
/-- x = [.. for ..], x a local -/
theorem psd_setLcO (i : Nat) {y : Str} {py : Pos} {elt tg iter : Expr} {ifs : List Expr} {scope : Scope} {own : List (Str × Nat)} {lpos : Pos} {ts : List Nat} {fi : Ar} {ft : Tg} {fc : Te} {fe : Ex} (hc : X.calm = true) (hN : X.N.Nodup)
    (hsw : swapsWith (.ListComp elt [⟨tg, iter, ifs, 0⟩] scope lpos) (some (.Name y py)) pos.line X.env = pure true) (hi : PI X tg iter (tI cls W fi)) (ok : BlkOk X.N X.env.scope scope own)
    (hg : ∀ (s : Shared) (H : Hp) (C : Addr) (cl : List (Str × Addr)) (fp : List Addr), PG (X.blk s H scope (compEnvC scope cl C X.env) fp) tg (tG ts ft)) (ht : ∀ (s : Shared) (H : Hp) (C : Addr) (cl : List (Str × Addr)) (fp : List Addr), PTs (X.blk s H scope (compEnvC scope cl C X.env) fp) ifs (tT cls W0 fc))
    (he : ∀ (s : Shared) (H : Hp) (C : Addr) (cl : List (Str × Addr)) (fp : List Addr), PE (X.blk s H scope (compEnvC scope cl C X.env) fp) elt (tE cls W0 fe)) (hts : ∀ i ∈ ts, i ∈ own.map (·.2) := by decide) (hy : X.N[i]? = some y := by rfl) (hyl : X.env.scope.names.lookup y = some .local := by rfl)
    (hs : ∀ x, foldedSetIterable iter X.env x = pure x := by intro _; rfl) :
    PS X (.Assign [.Name y py] (.ListComp elt [⟨tg, iter, ifs, 0⟩] scope lpos) pos) (tS cls W (setOS i (lcO fi (own.map (·.2)) ft fc fe))) :=
  PS_imp (ps_setLc hc hN hy hyl hsw hi ok hg ht he hs) fun D σ H h => lc_of hts σ H _ (setOS_of h)
/-- a thing of one's own is read as a datum from here on -/
@[simp] def shutS (i : Nat) (s : Sm) : Sm := fun ρ g => match ρ[i]? with
  | some (.ow (.lst ds)) => s (ρ.set i (.sh (.list ds))) g
  | _ => .bad
theorem pssd_shut (i : Nat) {s : Sm} (h : PSs X rest (tS cls W s)) : PSs X rest (tS cls W (shutS i s)) := PSs_imp h fun D σ H ⟨B, S, ρ, g, I, h⟩ => by
  unfold shutS at h
  cases e : ρ[i]? with
  | none => rw [e] at h; exact False.elim h
  | some z =>
    rw [e] at h
    cases z with
    | ow b =>
      cases b with
      | lst ds =>
        obtain ⟨S', sm, I'⟩ := I.shut e
        exact ⟨B, S', _, g, I', SO_gr sm h⟩
      | _ => exact False.elim h
    | _ => exact False.elim h
/-- x = [.. for ..], read as a datum at once -/
theorem pssd_setLc (i : Nat) {s : Sm} {f : Ow} (h1 : PS X st (tS cls W (setOS i f))) (h2 : PSs X rest (tS cls W s)) : PSs X (st :: rest) (tS cls W (seqS (setOS i f) (shutS i s))) := pssd_cons h1 (pssd_shut i h2)
@[simp] def appS (i : Nat) (f : Ex) : Sm := fun ρ g => match f ρ g with
  | .ok d g1 => match ρ[i]? with
    | some (.ow (.lst ds)) => if ds.length < big then .nx (ρ.set i (.ow (.lst (ds ++ [d])))) g1 else .bad
    | _ => .bad
  | .ex n g1 => (match ρ[i]? with
    | some (.ow (.lst _)) => .ex n ρ g1
    | _ => .bad)
  | .bad => .bad
theorem psd_app (i : Nat) {x : Str} {p apos cpos : Pos} (ha : PE X a (tE cls W fa)) (hN : X.N[i]? = some x := by rfl) (hv : Vis X.env.scope x := by first | exact Or.inl rfl | exact Or.inr (Or.inl rfl) | exact Or.inr (Or.inr rfl)) (hd : (x == ("__debug__" : Str)) = false := by decide) (hcd : (x == ("__classdict__" : Str)) = false := by decide)
    (hb : attributeBase (.Name x p) "append" X.env (eval (.Name x p) X.env) = eval (.Name x p) X.env := by rfl)
    (hz : (((((backTo cpos (starEach (a :: []) X.env)).all fun x => !x.1) && (backToKw cpos (keywordEach [] X.env)).all fun x => x.1.isSome) && decide (((a :: ([] : List Expr)).length + ([] : List Keyword).length + if ([] : List Keyword).isEmpty = true then 0 else 1) < 30)) = true) := by rfl)
    (hl : (apos.endLine == cpos.line) = true := by rfl) (hs : starEach [a] X.env = (false, eval a X.env) :: starEach [] X.env := by rfl) (hpl : ((backTo cpos (starEach [] X.env)).any fun x => x.1) = false := by rfl)
    (hsw : swapsWith (.Call (.Attribute (.Name x p) "append" apos) [a] [] cpos) none pos.line X.env = pure false := by rfl) :
    PS X (.Expr (.Call (.Attribute (.Name x p) "append" apos) [a] [] cpos) pos) (tS cls W (appS i fa)) :=
  PS_imp (ps_expr (pe_bm PySem.F.plainAttrs_list PySem.F.slot_list_append PySem.F.type_list_append mt_append (pe_var hN hv hd hcd) (pa_cons ha pa_nil hs) hb hz hl hs hpl) hsw) fun D σ H ⟨B, S, ρ, g, I, h⟩ => by
    unfold appS at h
    cases e : ρ[i]? with
    | none =>
      rw [e] at h
      cases ea : fa ρ g with
      | _ => rw [ea] at h; exact False.elim h
    | some z =>
      cases z with
      | ow b =>
        cases b with
        | lst ds =>
          obtain ⟨l, o, h1, h2, h3, h4, h5, h6⟩ := I.ow i _ e
          cases h6 with
          | @lst _ vs r =>
            refine ⟨.ref l, h1, .inl ⟨rfl, vs, .of h5⟩, B, S, ρ, g, I, ?_⟩
            cases ea : fa ρ g with
            | bad => rw [ea] at h; exact h
            | ex n g1 => rw [ea, e] at h; exact fun H' S' I' e => h _ _ _ I' e.base
            | ok d g1 =>
              rw [ea, e] at h
              simp only at h
              intro v H1 S1 I1 e1 r1
              by_cases hb : ds.length < big
              · rw [if_pos hb] at h
                refine ⟨l, vs, v, rfl, rfl, e1.keep _ _ h5 h3, big_lt (by rw [r.length]; exact hb), ?_⟩
                exact h _ _ _ (I1.mutO e h1 (.lst ((r.mono e1.base).append (.cons r1 .nil)))) e1.base
              · rw [if_neg hb] at h
                exact False.elim h
        | _ =>
          rw [e] at h
          cases ea : fa ρ g with
          | _ => rw [ea] at h; exact False.elim h
      | _ =>
        rw [e] at h
        cases ea : fa ρ g with
        | _ => rw [ea] at h; exact False.elim h

/-! ### loops -/
def forD (t : Tg) (body : Sm) : List PyData → Sm
  | [], ρ, g => .nx ρ g
  | d :: ds, ρ, g => match t d ρ with
    | none => .bad
    | some ρ1 => match body ρ1 g with
      | .nx ρ2 g2 => forD t body ds ρ2 g2
      | .ct ρ2 g2 => forD t body ds ρ2 g2
      | .bk ρ2 g2 => .nx ρ2 g2
      | .rt d g2 => .rt d g2
      | .ex n ρ2 g2 => .ex n ρ2 g2
      | .bad => .bad
@[simp] def forS (fi : Ar) (t : Tg) (body : Sm) : Sm := fun ρ g => match fi ρ g with
  | .ok ds g1 => forD t body ds ρ g1
  | .ex n g1 => .ex n ρ g1
  | .bad => .bad
theorem for_core {B : Bs} {S1 H1 : Hp} {ρ : Nv} {g1 : G} {J : It} {ds : List PyData} {ts : List Nat} {t : Tg} {sb : Sm} (I1 : Good B σ H1 S1 ρ g1) (it : ItOk J S1 ds) (h : SO cls W B S1 D (forD t sb ds ρ g1)) :
    ∃ W' : Nat → Nat → L2.St → Hp → Prop, (∃ m, W' 0 m σ H1) ∧ ∀ (i m : Nat) (σ : L2.St) (H : Hp), W' i m σ H → (J.stop i H ∧ D.nx σ H) ∨ (J.go i H ∧ ∃ N : L2.St → Hp → Prop, (∀ σ' H', N σ' H' → ∃ m', m' < m ∧ W' (i + 1) m' σ' H') ∧
      ∀ x H', J.yld i H x H' → (tG ts t) x σ H' fun σ2 H2 => (tS cls W sb) { D with nx := N, ct := N, bk := D.nx } σ2 H2) := by
  refine ⟨fun i m σ' H' => i + m = ds.length ∧ ∃ S' ρ' g', Good B σ' H' S' ρ' g' ∧ Same S1 S' ∧ SO cls W B S' D (forD t sb (ds.drop i) ρ' g'), ⟨ds.length, by omega, S1, ρ, g1, I1, Same.refl _, h⟩, ?_⟩
  rintro i m σ' H' ⟨him, S', ρ', g', I', sm, h'⟩
  by_cases hi : i < ds.length
  · refine .inr ⟨it.go i H' hi (sm.trans I'.sub), fun σ'' H'' => ∃ m', m' < m ∧ (i + 1 + m' = ds.length ∧ ∃ S' ρ' g', Good B σ'' H'' S' ρ' g' ∧ Same S1 S' ∧ SO cls W B S' D (forD t sb (ds.drop (i + 1)) ρ' g')), fun σ'' H'' z => z, fun x H2 hy => ?_⟩
    obtain ⟨d, S2, hd, gr1, rd⟩ := it.yld i H' S' x H2 hi sm I'.sub hy
    obtain ⟨I2, e2⟩ := gr1.good I'
    have hdrop : ds.drop i = d :: ds.drop (i + 1) := by
      rw [List.drop_eq_getElem_cons hi]
      rw [List.getElem?_eq_getElem hi] at hd
      rw [Option.some.inj hd]
    rw [hdrop] at h'
    unfold forD at h'
    cases et : t d ρ' with
    | none => simp only [et] at h'; exact False.elim h'
    | some ρ1 =>
      simp only [et] at h'
      refine ⟨B, S2, ρ', g', d, ρ1, I2, rd, et, fun σ3 I3 _ => ⟨B, S2, ρ1, g', I3, ?_⟩⟩
      have h2 := SO_gr e2.base h'
      cases eb : sb ρ1 g' with
      | nx ρ2 g2 =>
        rw [eb] at h2
        exact fun σ4 H4 S4 I4 e4 => ⟨m - 1, by omega, by omega, S4, ρ2, g2, I4, (sm.trans e2.base).trans e4, SO_gr e4 h2⟩
      | ct ρ2 g2 =>
        rw [eb] at h2
        exact fun σ4 H4 S4 I4 e4 => ⟨m - 1, by omega, by omega, S4, ρ2, g2, I4, (sm.trans e2.base).trans e4, SO_gr e4 h2⟩
      | bk ρ2 g2 => rw [eb] at h2; exact h2
      | rt d g2 => rw [eb] at h2; exact h2
      | ex n ρ2 g2 => rw [eb] at h2; exact h2
      | bad => rw [eb] at h2; exact h2
  · have hdrop : ds.drop i = [] := List.drop_eq_nil_of_le (by omega)
    rw [hdrop] at h'
    exact .inl ⟨it.stop i H' (by omega) (sm.trans I'.sub), h' _ _ _ I' (Same.refl _)⟩
theorem psd_for {tg iter : Expr} {body : List Stmt} {ts : List Nat} {fi : Ar} {t : Tg} {sb : Sm} (hp : PassesOwn (model X.prog X.w) X.A X.env X.xe) (hc : X.calm = true) (hi : PI X tg iter (tI cls W fi)) (hg : PG X tg (tG ts t)) (hb : PSs X body (tS cls W sb)) (hs : ∀ x, foldedSetIterable iter X.env x = pure x := by intro _; rfl) :
    PS X (.For tg iter body [] pos) (tS cls W (forS fi t sb)) := PS_imp (ps_for hp hc hi hg hb hs) fun D σ H ⟨B, S, ρ, g, I, h⟩ => by
  unfold forS at h
  refine ⟨B, S, ρ, g, I, ?_⟩
  cases ei : fi ρ g with
  | bad => rw [ei] at h; exact h
  | ex n g1 => rw [ei] at h; exact fun H' S' I' e => h _ _ _ I' e.base
  | ok ds g1 =>
    rw [ei] at h
    exact fun J H1 S1 I1 e1 it => for_core I1 it (SO_gr e1.base h)
/-- for .. in script, the script in slot i -/
def tScF (K : PySem.W.Frag) (cls : Nat → Value) (W : WX) (i : Nat) (ns : List Int) (t : Tg) (sb : Sm) : TS := fun D σ H => ∃ B S ρ g, Good B σ H S ρ g ∧ ρ[i]? = some .sc ∧ SqL K B.S B.C (ns.map V.int) ∧ SO cls W B S D (forD t sb (ns.map PyData.int) ρ g)
theorem it_sq {K : PySem.W.Frag} {S : Hp} {a : Addr} {ns : List Int} (h : SqL K S a (ns.map V.int)) : ItOk (Itl K a) S (ns.map PyData.int) := by
  have sq : ∀ H, Same S H → SqL K H a (ns.map V.int) := fun H e => e.seq h
  refine ⟨fun i H hi hs => ?_, fun i H hi hs => ⟨_, sq H hs, by rw [List.length_map] at hi ⊢; exact hi⟩, fun i H S' x H' hi h1 h2 hy => ?_⟩
  · rw [List.length_map] at hi
    exact ⟨_, .int ns[i], sq H hs, by rw [List.getElem?_map, List.getElem?_eq_getElem hi]; rfl⟩
  · obtain ⟨rfl, hy⟩ := hy
    rw [List.length_map] at hi
    have e := hy _ (sq _ (h1.trans h2))
    rw [List.getElem?_map, List.getElem?_eq_getElem hi] at e
    have ex : x = .int ns[i] := (Option.some.inj e).symm
    subst ex
    exact ⟨.int ns[i], S', by rw [List.getElem?_map, List.getElem?_eq_getElem hi]; rfl, .same, .int _⟩
theorem psd_forSc (i : Nat) {x : Str} {tg : Expr} {p : Pos} {body : List Stmt} {ts : List Nat} {ns : List Int} {t : Tg} {sb : Sm} (hp : PassesOwn (model X.prog X.w) X.A X.env X.xe) (hc : X.calm = true) (hg : PG X tg (tG ts t)) (hb : PSs X body (tS cls W sb)) (hN : X.N[i]? = some x := by rfl) (hv : Vis X.env.scope x := by first | exact Or.inl rfl | exact Or.inr (Or.inl rfl) | exact Or.inr (Or.inr rfl)) (hd : (x == ("__debug__" : Str)) = false := by decide)
    (hcd : (x == ("__classdict__" : Str)) = false := by decide) (hs : ∀ v, foldedSetIterable (.Name x p) X.env v = pure v := by intro _; rfl) : PS X (.For tg (.Name x p) body [] pos) (tScF X.K cls W i ns t sb) :=
  PS_imp (ps_for hp hc (pi_list (pe_var hN hv hd hcd)) hg hb hs) fun D σ H ⟨B, S, ρ, g, I, hi, hq, h⟩ => by
    have sq := I.base.seq hq
    exact ⟨_, I.sw i hi, B.C, rfl, ⟨_, I.sub.seq sq⟩, for_core I (it_sq sq) h⟩
def whileN (c : Te) (b : Sm) : Nat → Sm
  | 0, _, _ => .bad
  | n + 1, ρ, g => match c ρ g with
    | .ok true g1 => (match b ρ g1 with
      | .nx ρ2 g2 => whileN c b n ρ2 g2
      | .ct ρ2 g2 => whileN c b n ρ2 g2
      | .bk ρ2 g2 => .nx ρ2 g2
      | .rt d g2 => .rt d g2
      | .ex k ρ2 g2 => .ex k ρ2 g2
      | .bad => .bad)
    | .ok false g1 => .nx ρ g1
    | .ex k g1 => .ex k ρ g1
    | .bad => .bad
open Classical in
noncomputable def whileS (c : Te) (b : Sm) : Sm := fun ρ g => if h : ∃ n, whileN c b n ρ g ≠ .bad then whileN c b (Classical.choose h) ρ g else .bad
theorem whileN_mono {c : Te} {b : Sm} : ∀ {n : Nat} {ρ : Nv} {g : G}, whileN c b n ρ g ≠ .bad → ∀ k, whileN c b (n + k) ρ g = whileN c b n ρ g
  | 0, ρ, g, h, k => absurd rfl h
  | n + 1, ρ, g, h, k => by
    rw [show n + 1 + k = (n + k) + 1 by omega]
    unfold whileN at h ⊢
    cases ec : c ρ g with
    | bad => rfl
    | ex m g1 => rfl
    | ok t g1 =>
      cases t with
      | false => rfl
      | true =>
        simp only [ec] at h
        simp only
        cases eb : b ρ g1 with
        | nx ρ2 g2 => simp only [eb] at h; exact whileN_mono h k
        | ct ρ2 g2 => simp only [eb] at h; exact whileN_mono h k
        | _ => rfl
theorem whileS_of {c : Te} {b : Sm} {n : Nat} {ρ : Nv} {g : G} {r : SR} (h : whileN c b n ρ g = r) (hr : r ≠ .bad) : whileS c b ρ g = r := by
  have hx : ∃ n, whileN c b n ρ g ≠ .bad := ⟨n, by rw [h]; exact hr⟩
  unfold whileS
  rw [dif_pos hx]
  have h1 := Classical.choose_spec hx
  generalize Classical.choose hx = m at h1
  rcases Nat.le_total m n with z | z
  · have q := whileN_mono h1 (n - m)
    rw [show m + (n - m) = n by omega] at q
    rw [← q, h]
  · have q := whileN_mono (n := n) (by rw [h]; exact hr) (m - n)
    rw [show n + (m - n) = m by omega] at q
    rw [q, h]
theorem psd_while {body : List Stmt} {tc : Te} {sb : Sm} (hp : PassesOwn (model X.prog X.w) X.A X.env X.xe) (hc : PT X c (tT cls W tc)) (hb : PSs X body (tS cls W sb)) : PS X (.While c body [] pos) (tS cls W (whileS tc sb)) := PS_imp (ps_while hp hc hb) fun D σ H ⟨B, S, ρ, g, I, h⟩ => by
  unfold whileS at h
  by_cases hx : ∃ n, whileN tc sb n ρ g ≠ .bad
  · rw [dif_pos hx] at h
    refine ⟨fun m σ' H' => ∃ S' ρ' g', Good B σ' H' S' ρ' g' ∧ SO cls W B S' D (whileN tc sb m ρ' g'), ⟨_, S, ρ, g, I, h⟩, ?_⟩
    rintro m σ' H' ⟨S', ρ', g', I', h'⟩
    refine ⟨B, S', ρ', g', I', ?_⟩
    cases m with
    | zero => exact False.elim h'
    | succ m =>
      unfold whileN at h'
      cases ec : tc ρ' g' with
      | bad => rw [ec] at h'; exact h'
      | ex n g1 => rw [ec] at h'; exact fun H' S' I' e => h' _ _ _ I' e.base
      | ok k g1 =>
        rw [ec] at h'
        intro H2 S2 I2 e2
        have h2 := SO_gr e2.base h'
        cases k with
        | false => exact h2 _ _ _ I2 (Same.refl _)
        | true =>
          rw [if_pos rfl]
          simp only at h2
          refine ⟨fun σ'' H'' => ∃ m', m' < m + 1 ∧ ∃ S' ρ' g', Good B σ'' H'' S' ρ' g' ∧ SO cls W B S' D (whileN tc sb m' ρ' g'), fun _ _ z => z, B, S2, ρ', g1, I2, ?_⟩
          cases eb : sb ρ' g1 with
          | nx ρ2 g2 =>
            rw [eb] at h2
            exact fun σ4 H4 S4 I4 e4 => ⟨m, by omega, S4, ρ2, g2, I4, SO_gr e4 h2⟩
          | ct ρ2 g2 =>
            rw [eb] at h2
            exact fun σ4 H4 S4 I4 e4 => ⟨m, by omega, S4, ρ2, g2, I4, SO_gr e4 h2⟩
          | bk ρ2 g2 => rw [eb] at h2; exact h2
          | rt d g2 => rw [eb] at h2; exact h2
          | ex n ρ2 g2 => rw [eb] at h2; exact h2
          | bad => rw [eb] at h2; exact h2
  · rw [dif_neg hx] at h
    exact False.elim h

/-! ### exceptions -/
/-- an own class of exceptions: n its number, x its name -/
structure ExcN (K : PySem.W.Frag) (mg : Str → Option Value) (cls : Nat → Value) (n : Nat) (x : Str) : Prop where
  ex : ∃ C : Addr, cls n = .ref C ∧ mg x = some (.ref C) ∧ PySem.W.excIn K C [.type "ValueError", .type "Exception", .type "BaseException", .type "object"] "ValueError.__new__" = true ∧ PySem.W.keepIn K (.ref C) = true ∧
    PySem.W.subIn K (.ref C) (.type "BaseException") = some true ∧ PySem.W.typeIn K (.ref C) = some (.type "type")
@[simp] def raiseS (n : Nat) : Sm := fun ρ g => .ex n ρ g
theorem psd_raise {n : Nat} {x m : Str} {j : Nat} {p p2 pos2 : Pos} (E : ExcN X.K X.mg cls n x) (hc : X.calm = true) (tk : Takes X W) (hg : Gl X x := by rfl) (hd : (x == ("__debug__" : Str)) = false := by decide) : PS X (.Raise (some (.Call (.Name x p) [.Constant (.str m) j p2] [] pos)) none pos2) (tS cls W (raiseS n)) := by
  obtain ⟨C, h1, h2, h3, h4, h5, h6⟩ := E.ex
  exact PS_imp (ps_raise hc tk (pmk_own PySem.F.excBase_ValueError h3 h2 h4 (raises_own h5 h6) hg hd)) fun D σ H ⟨B, S, ρ, g, I, h⟩ => by
    have q := h σ H S I (Same.refl _)
    rw [h1] at q
    exact q
/-- try: body / except the class n: suite; cnt classes there are -/
@[simp] def noEx : SR → SR
  | .ex _ _ _ => .bad
  | r => r
@[simp] def tryS (n cnt : Nat) (sb sh : Sm) : Sm := fun ρ g => match sb ρ g with
  | .ex m ρ1 g1 => if m = n then noEx (sh ρ1 g1) else if m < cnt then .ex m ρ1 g1 else .bad
  | r => r
theorem psd_try {n cnt : Nat} {x : Str} {np pos' : Pos} {body suite : List Stmt} {b₀ : Stmt} {sb sh : Sm} (hx : ∀ m, m < cnt → PySem.W.exmOne X.K (cls m) (cls n) = some (decide (m = n))) (hn : n < cnt) (hm : X.mg x = some (cls n)) (hs : X.stack = X.env :: X.outer) (hf : X.env.frame = some X.env.locals) (tk : Takes X W)
    (hb : ∀ (W' : WX) (pn : List (Addr × Obj)) (xe : Value → Shared → Prop), Takes (X.tr pn xe) W' → PassesOwn (model X.prog X.w) X.A X.env xe → PSs (X.tr pn xe) body (tS cls W' sb))
    (hsu : ∀ (a : Addr) (oe : Obj) (pn : List (Addr × Obj)), PSs (X.suite a ((a, oe) :: pn)) (b₀ :: suite) (tS cls W0 sh)) (hg : Gl X x := by rfl) (hd : (x == ("__debug__" : Str)) = false := by decide) :
    PS X (.Try body [.ExceptHandler (some (.Name x np)) none (b₀ :: suite) pos'] [] [] pos) (tS cls W (tryS n cnt sb sh)) :=
  PS_imp (ps_try_only (tb := fun W' => tS cls W' sb) (ts := fun _ _ _ => tS cls W0 sh) hs hf ⟨hg, hd, .inl hm⟩ tk hb fun a oe _ _ pn _ _ => hsu a oe pn) fun D σ H ⟨B, S, ρ, g, I, h⟩ => by
    unfold tryS at h
    refine ⟨B, S, ρ, g, I, ?_⟩
    cases es : sb ρ g with
    | nx ρ1 g1 => rw [es] at h; exact h
    | rt d g1 => rw [es] at h; exact h
    | bk ρ1 g1 => rw [es] at h; exact h
    | ct ρ1 g1 => rw [es] at h; exact h
    | bad => rw [es] at h; exact h
    | ex m ρ1 g1 =>
      rw [es] at h
      intro σ' H' S' I' e'
      by_cases hmn : m = n
      · subst hmn
        simp only [if_pos] at h
        refine ⟨true, by rw [hx m hn]; simp, fun _ a _ => ?_, (fun z => nomatch z)⟩
        refine ⟨B, S', ρ1, g1, I', ?_⟩
        have h2 := SO_gr e' h
        cases eh : sh ρ1 g1 with
        | nx ρ2 g2 => rw [eh] at h2; exact h2
        | rt d g2 => rw [eh] at h2; exact h2
        | bk ρ2 g2 => rw [eh] at h2; exact h2
        | ct ρ2 g2 => rw [eh] at h2; exact h2
        | bad => rw [eh] at h2; exact h2
        | ex k ρ2 g2 => rw [eh] at h2; exact False.elim h2
      · simp only [if_neg hmn] at h
        by_cases hc : m < cnt
        · rw [if_pos hc] at h
          exact ⟨false, by rw [hx m hc, decide_eq_false hmn], (fun z => nomatch z), fun _ => h σ' H' S' I' e'⟩
        · rw [if_neg hc] at h
          exact False.elim h
end

/-! ### defs -/
abbrev Fn := List PyData → G → R PyData
def FO (cls : Nat → Value) (B : Bs) (Q : VK) (E : XK) : R PyData → Prop
  | .ok d g' => ∀ v H' S', Fin B H' S' g' → Rp S' v d → Q v H'
  | .ex n g' => ∀ H' S', Fin B H' S' g' → E (cls n) none H'
  | .bad => False
/-- a def's promise: m what it computes of the data, dr whether its first argument is the draws -/
def spF (cls : Nat → Value) (ar : Nat) (dr : Bool) (m : Fn) : Sp := fun vs H Q E => vs.length = ar ∧ ∃ (A : Addr) (live : Bool) (S : Hp) (us : List V) (ds : List PyData) (g : G), vs = (if dr = true then .ref A :: us else us) ∧ (dr = true → live = true) ∧ Fin ⟨A, live, S, H, 0⟩ H S g ∧ Rps S us ds ∧ FO cls ⟨A, live, S, H, 0⟩ Q E (m ds g)
@[simp] def fnD (n : Nat) (dr : Bool) (body : Sm) : Fn := fun ds g => match body ((if dr = true then .dr :: ds.map .sh else ds.map .sh) ++ List.replicate n .no) g with
  | .nx _ g1 => .ok .none g1
  | .rt d g1 => .ok d g1
  | .ex k _ g1 => .ex k g1
  | _ => .bad
structure Kept (P : Program) (w : World) (K : PySem.W.Frag) (mg : Str → Option Value) (base : Heap) (cls : Nat → Value) (x : Str) (ps : List Str) (dr : Bool) (m : Fn) (k : Nat) : Prop where
  ex : ∃ (f : Addr) (fd : FuncData), mg x = some (.ref f) ∧ PySem.W.keepIn K (.ref f) = true ∧ L2.Binds K fd ps [] ∧ FnOk P w K mg base (L2.CX P w) k f fd ps (spF cls ps.length dr m)
section
variable {P : Program} {w : World} {K : PySem.W.Frag} {mg : Str → Option Value} {base : Heap} {cls : Nat → Value}
theorem Rps.sh {S : Hp} : ∀ {us : List V} {ds : List PyData} {i : Nat} {d : PyData}, Rps S us ds → (ds.map Sl.sh)[i]? = some (.sh d) → ∃ v, (us.map some)[i]? = some (some v) ∧ Rp S v d := fun {us ds i d} r e => by
  rw [List.getElem?_map] at e
  cases h : ds[i]? with
  | none => rw [h] at e; cases e
  | some d' =>
    rw [h] at e
    cases e
    obtain ⟨v, h1, h2⟩ := r.getD h
    exact ⟨v, by rw [List.getElem?_map, h1]; rfl, h2⟩
theorem start_good {A : Addr} {live : Bool} {S H : Hp} {us vs : List V} {ds : List PyData} {g : G} {dr : Bool} {N : List Str} {n : Nat} (F : Fin ⟨A, live, S, H, 0⟩ H S g) (hlv : dr = true → live = true) (hv : vs = (if dr = true then .ref A :: us else us)) (r : Rps S us ds) (hn : N.length - vs.length = n) :
    Good ⟨A, live, S, H, 0⟩ (L2.start N vs) H S ((if dr = true then .dr :: ds.map .sh else ds.map .sh) ++ List.replicate n .no) g := by
  have hno : ∀ (L : List Sl) (i : Nat) (z : Sl), z ≠ .no → (L ++ List.replicate n Sl.no)[i]? = some z → L[i]? = some z := fun L i z hz h => by
    by_cases hi : i < L.length
    · rw [List.getElem?_append_left hi] at h; exact h
    · rw [List.getElem?_append_right (Nat.le_of_not_lt hi), List.getElem?_replicate] at h
      split at h
      · exact absurd (Option.some.inj h).symm hz
      · cases h
  have hst : ∀ (i : Nat) (v : V), (vs.map some)[i]? = some (some v) → (L2.start N vs)[i]? = some (some v) := fun i v h => by
    unfold L2.start
    rw [List.getElem?_append_left (List.getElem?_eq_some_iff.mp h).1]
    exact h
  have hnoow : ∀ (i : Nat) (b : Ob), ((if dr = true then Sl.dr :: ds.map .sh else ds.map .sh) ++ List.replicate n Sl.no)[i]? ≠ some (.ow b) := fun i b h => by
    have h' := hno _ _ (.ow b) (fun z => nomatch z) h
    cases dr with
    | true =>
      rw [if_pos rfl] at h'
      cases i with
      | zero => cases h'
      | succ i =>
        rw [List.getElem?_cons_succ, List.getElem?_map] at h'
        cases e : ds[i]? with
        | none => rw [e] at h'; cases h'
        | some d => rw [e] at h'; cases h'
    | false =>
      rw [if_neg (by decide)] at h'
      rw [List.getElem?_map] at h'
      cases e : ds[i]? with
      | none => rw [e] at h'; cases h'
      | some d => rw [e] at h'; cases h'
  refine ⟨F, ?_, fun i d h => ?_, fun i h => ?_, fun i h => ?_, fun i b h => absurd h (hnoow i b), fun i j b c a h _ _ _ => absurd h (hnoow i b)⟩
  · unfold L2.start
    rw [List.length_append, List.length_append, List.length_map, List.length_replicate, List.length_replicate, hn, hv]
    cases dr with
    | true => rw [if_pos rfl, if_pos rfl, List.length_cons, List.length_cons, List.length_map, r.length]
    | false => rw [if_neg (by decide), if_neg (by decide), List.length_map, r.length]
  · have h' := hno _ _ (.sh d) (fun z => nomatch z) h
    cases dr with
    | true =>
      rw [if_pos rfl] at h' hv
      subst hv
      cases i with
      | zero => cases h'
      | succ i =>
        obtain ⟨v, h1, h2⟩ := r.sh (i := i) (d := d) h'
        exact ⟨v, hst _ _ h1, h2⟩
    | false =>
      rw [if_neg (by decide)] at h' hv
      subst hv
      obtain ⟨v, h1, h2⟩ := r.sh h'
      exact ⟨v, hst _ _ h1, h2⟩
  · have h' := hno _ _ .dr (fun z => nomatch z) h
    cases dr with
    | true =>
      rw [if_pos rfl] at h' hv
      subst hv
      cases i with
      | zero => exact ⟨hst _ _ rfl, hlv rfl⟩
      | succ i =>
        rw [List.getElem?_cons_succ, List.getElem?_map] at h'
        cases e : ds[i]? with
        | none => rw [e] at h'; cases h'
        | some d => rw [e] at h'; cases h'
    | false =>
      rw [if_neg (by decide)] at h'
      rw [List.getElem?_map] at h'
      cases e : ds[i]? with
      | none => rw [e] at h'; cases h'
      | some d => rw [e] at h'; cases h'
  · have h' := hno _ _ .sc (fun z => nomatch z) h
    cases dr with
    | true =>
      rw [if_pos rfl] at h'
      cases i with
      | zero => cases h'
      | succ i =>
        rw [List.getElem?_cons_succ, List.getElem?_map] at h'
        cases e : ds[i]? with
        | none => rw [e] at h'; cases h'
        | some d => rw [e] at h'; cases h'
    | false =>
      rw [if_neg (by decide)] at h'
      rw [List.getElem?_map] at h'
      cases e : ds[i]? with
      | none => rw [e] at h'; cases h'
      | some d => rw [e] at h'; cases h'
/-- THE RULE for a def -/
theorem fn_ok {x : Str} {st : Stmt} {N ps : List Str} {k : Nat} {dr : Bool} {body : Sm} (Fx : ∃ (f : Addr) (fd : FuncData), Fun K x x st f fd ∧ mg x = some (.ref f) ∧ L2.Binds K fd ps []) (S : FnScope N ps (defScope st))
    (hd : ∀ (f : Addr) (cdv : Value) (A : Around) (outer : List PySem.Env) (s : Shared) (H : Hp) (E : XK), Room k (A.deeper (envOfC x (defScope st) s.heap.objs.size f cdv)) →
      PSs (cxOf (L2.CX P w) P w K mg base N x (defScope st) f cdv A outer s H E) (defBody st) (tS cls (fun c d _ H => E c d H) body)) {n : Nat} (hn : N.length - ps.length = n := by rfl) :
    Kept P w K mg base cls x ps dr (fnD n dr body) (k + 1) := by
  obtain ⟨f, fd, F, hm, hb⟩ := Fx
  refine ⟨f, fd, hm, F.kp, hb, F.okX S (fun vs H Q E h => h.1) fun cdv A outer s H vs Q E hr h => ?_⟩
  obtain ⟨hl, A1, live, S1, us, ds, g, hv, hlive, Fi, r, h⟩ := h
  refine ⟨_, hd f cdv A outer s H E hr, ⟨A1, live, S1, H, 0⟩, S1, (if dr = true then .dr :: ds.map .sh else ds.map .sh) ++ List.replicate n .no, g, start_good Fi hlive hv r (by rw [hl]; exact hn), ?_⟩
  unfold fnD at h
  cases eb : body ((if dr = true then .dr :: ds.map .sh else ds.map .sh) ++ List.replicate n .no) g with
  | nx ρ1 g1 => rw [eb] at h; exact fun σ' H' S' I' _ => h .non H' S' I'.toFin .non
  | rt d g1 => rw [eb] at h; exact fun v H' S' F' r' => h v H' S' F' r'
  | ex n ρ1 g1 => rw [eb] at h; exact fun σ' H' S' I' _ => h H' S' I'.toFin
  | bk ρ1 g1 => rw [eb] at h; exact False.elim h
  | ct ρ1 g1 => rw [eb] at h; exact False.elim h
  | bad => rw [eb] at h; exact h
end
section
variable {X : Cx} {cls : Nat → Value} {W : WX} {pos p : Pos} {e : Expr} {es : List Expr} {fa : Ar} {x : Str} {ps : List Str} {m : Fn} {j k : Nat}
theorem Good.after {B : Bs} {σ : L2.St} {H S H' S' : Hp} {ρ : Nv} {g g' : G} (I : Good B σ H S ρ g) (F : Fin ⟨B.A, B.live, S, H, 0⟩ H' S' g') : Good B σ H' S' ρ g' ∧ Gr B H S H' S' := by
  have e : Gr B H S H' S' := ⟨F.keep, F.base, F.new, F.there⟩
  refine ⟨I.grow e F.sub ?_, e⟩
  have d := F.dr
  cases g' with
  | none => exact d
  | some q => exact d
theorem Good.fin0 {B : Bs} {σ : L2.St} {H S : Hp} {ρ : Nv} {g : G} (I : Good B σ H S ρ g) : Fin ⟨B.A, B.live, S, H, 0⟩ H S g := by
  refine ⟨I.sub, fun _ _ h _ => h, Same.refl _, fun _ h => .inl h, fun _ h => h, I.no, ?_⟩
  have d := I.dr
  cases g with
  | none => exact d
  | some q => exact d
@[simp] def callD (ar : Nat) (m : Fn) (fa : Ar) : Ex := fun ρ g => (fa ρ g).bind fun ds g1 => if ds.length = ar then m ds g1 else .bad
theorem pd_call (F : Kept X.prog X.w X.K X.mg X.base cls x ps false m j) (hr : Room k X.A) (hjk : j ≤ k) (tk : Takes X W) (ha : PA X (e :: es) (tA cls W fa)) (hg : Gl X x := by rfl) (hdb : (x == ("__debug__" : Str)) = false := by decide)
    (he : starEach (e :: es) X.env = (false, eval e X.env) :: starEach es X.env := by rfl) (hpl : (backTo pos (starEach es X.env)).any (·.1) = false := by rfl) {ar : Nat} (har : ps.length = ar := by rfl) : PE X (.Call (.Name x p) (e :: es) [] pos) (tE cls W (callD ar m fa)) := by
  subst har
  obtain ⟨f, fd, hm, hk, hb, F⟩ := F.ex
  exact PE_imp (pe_callS F (hr.mono hjk) hg hm hk hb (fun σ => passAt tk σ) ha hdb he hpl) fun σ H Q ⟨B, S, ρ, g, I, h⟩ => by
    unfold callD at h
    refine ⟨B, S, ρ, g, I, ?_⟩
    cases ea : fa ρ g with
    | bad => rw [ea] at h; exact h
    | ex n g1 => rw [ea] at h; exact h
    | ok ds g1 =>
      rw [ea] at h
      intro vs H1 S1 I1 e1 r1
      have h' := EO_gr e1 h
      simp only [R.bind_ok] at h'
      by_cases hl : ds.length = ps.length
      · rw [if_pos hl] at h'
        refine ⟨by rw [r1.length]; exact hl, B.A, B.live, S1, vs, ds, g1, rfl, (fun z => nomatch z), I1.fin0, r1, ?_⟩
        cases em : m ds g1 with
        | ok d g2 =>
          rw [em] at h'
          intro v H2 S2 F2 r2
          obtain ⟨I2, e2⟩ := I1.after F2
          exact h' v H2 S2 I2 e2 r2
        | ex n g2 =>
          rw [em] at h'
          intro H2 S2 F2
          obtain ⟨I2, e2⟩ := I1.after F2
          exact h' H2 S2 I2 e2
        | bad => rw [em] at h'; exact h'
      · rw [if_neg hl] at h'
        exact False.elim h'
/-- f(draws, ..): the draws stand in slot i -/
@[simp] def callG (ar i : Nat) (m : Fn) (fa : Ar) : Ex := fun ρ g => match ρ[i]? with
  | some .dr => (fa ρ g).bind fun ds g1 => if ds.length + 1 = ar then m ds g1 else .bad
  | _ => .bad
theorem pd_callG (i : Nat) {y : Str} {py : Pos} (F : Kept X.prog X.w X.K X.mg X.base cls x ps true m j) (hr : Room k X.A) (hjk : j ≤ k) (tk : Takes X W) (ha : PA X es (tA cls W fa)) (hN : X.N[i]? = some y := by rfl) (hv : Vis X.env.scope y := by first | exact Or.inl rfl | exact Or.inr (Or.inl rfl) | exact Or.inr (Or.inr rfl)) (hd : (y == ("__debug__" : Str)) = false := by decide)
    (hcd : (y == ("__classdict__" : Str)) = false := by decide) (hg : Gl X x := by rfl) (hdb : (x == ("__debug__" : Str)) = false := by decide)
    (he : starEach (.Name y py :: es) X.env = (false, eval (.Name y py) X.env) :: starEach es X.env := by rfl) (hpl : (backTo pos (starEach es X.env)).any (·.1) = false := by rfl) {ar : Nat} (har : ps.length = ar := by rfl) : PE X (.Call (.Name x p) (.Name y py :: es) [] pos) (tE cls W (callG ar i m fa)) := by
  subst har
  obtain ⟨f, fd, hm, hk, hb, F⟩ := F.ex
  exact PE_imp (pe_callS F (hr.mono hjk) hg hm hk hb (fun σ => passAt tk σ) (pa_cons (pe_var hN hv hd hcd) ha he) hdb he hpl) fun σ H Q ⟨B, S, ρ, g, I, h⟩ => by
    unfold callG at h
    cases ei : ρ[i]? with
    | none => rw [ei] at h; exact False.elim h
    | some z =>
      cases z with
      | dr =>
        rw [ei] at h
        refine ⟨_, (I.dw i ei).1, B, S, ρ, g, I, ?_⟩
        simp only at h
        cases ea : fa ρ g with
        | bad => rw [ea] at h; exact h
        | ex n g1 => rw [ea] at h; exact h
        | ok ds g1 =>
          rw [ea] at h
          intro vs H1 S1 I1 e1 r1
          have h' := EO_gr e1 h
          simp only [R.bind_ok] at h'
          by_cases hl : ds.length + 1 = ps.length
          · rw [if_pos hl] at h'
            have hlive : B.live = true := (I.dw i ei).2
            refine ⟨by rw [List.length_cons, r1.length]; exact hl, B.A, B.live, S1, vs, ds, g1, rfl, fun _ => hlive, I1.fin0, r1, ?_⟩
            cases em : m ds g1 with
            | ok d g2 =>
              rw [em] at h'
              intro v H2 S2 F2 r2
              obtain ⟨I2, e2⟩ := I1.after F2
              exact h' v H2 S2 I2 e2 r2
            | ex n g2 =>
              rw [em] at h'
              intro H2 S2 F2
              obtain ⟨I2, e2⟩ := I1.after F2
              exact h' H2 S2 I2 e2
            | bad => rw [em] at h'; exact h'
          · rw [if_neg hl] at h'
            exact False.elim h'
      | _ => rw [ei] at h; exact False.elim h
end
end DL

set_option Elab.async false
set_option linter.all false
set_option maxRecDepth 100000
set_option maxHeartbeats 400000
/-! ### t[::-1] of a tuple -/
namespace DLT
open PySem PyProof.Rows HT
open PySem.SeqAt
open PySem.AutoSeq1 (wpAny_loadPart')
open PySem.MeetsSeq PySem.MeetsSeq2 PySem.MeetsSeq3
section
variable {prog : Program} {w : World} {A : Around} {E : Value → Shared → Prop} {s : Shared}
theorem applied_rev {sl : Addr} {vl vu vs : Value} {n : Nat} {Q : Int × Int × Nat → Shared → Prop} (hs : s.heap.IsSliceOf sl vl vu vs) (pl : IsPart vl none) (pu : IsPart vu none) (ps : IsPart vs (some (-1)))
    (h : Q ((n : Int) - 1, -1, n) s) : wpAny (model prog w) A (Builtin.Slice.sliceApplied (.ref sl) (pure (n : Int))) Q E s := by
  obtain ⟨os, hos, hcs, hds⟩ := id hs
  unfold Builtin.Slice.sliceApplied Builtin.Slice.sliceFields
  refine wpAny_bind (wpAny_bind (wpAny_field hos hds (x := vl) rfl (wpAny_bind (wpAny_field hos hds (x := vu) rfl (wpAny_bind (wpAny_field hos hds (x := vs) rfl (wpAny_pure ?_)))))))
  refine wpAny_bind (slicePart_ ps ?_)
  show wpAny _ _ (if ((-1 : Int) == 0) = true then _ else _) _ _ s
  rw [if_neg (by decide)]
  refine wpAny_bind (slicePart_ pl (wpAny_bind (slicePart_ pu (wpAny_bind (wpAny_pure ?_)))))
  show wpAny _ _ (pure ((n : Int) - 1, (-1 : Int), Builtin.Slice.slicePlaces ((n : Int) - 1) (-1) (-1))) _ _ s
  have e : Builtin.Slice.slicePlaces ((n : Int) - 1) (-1) (-1) = n := by
    unfold Builtin.Slice.slicePlaces
    have h1 : ¬ ((-1 : Int) > 0) := by decide
    rw [if_neg h1]
    by_cases hn : (n : Int) - 1 > -1
    · rw [if_pos hn, show (-(-1 : Int)) = 1 by decide, Int.ediv_one]
      omega
    · rw [if_neg hn]
      omega
  rw [e]
  exact wpAny_pure h
theorem pick_rev (xs : Array Value) : ((List.range xs.size).filterMap fun (k : Nat) => xs[(((xs.size : Int) - 1) + (k : Int) * -1).toNat]?).toArray = xs.toList.reverse.toArray := by
  have e : (fun (k : Nat) => xs[(((xs.size : Int) - 1) + (k : Int) * -1).toNat]?) = fun k => xs[xs.size - 1 - k]? := by
    funext k
    have : (((xs.size : Int) - 1) + (k : Int) * -1).toNat = xs.size - 1 - k := by omega
    rw [this]
  rw [e]
  have q := PySem.W.krv_range xs.size
  have r : (List.range xs.size).filterMap (fun k => xs[xs.size - 1 - k]?) = ((List.range xs.size).map (fun k => xs.size - 1 - k)).filterMap (xs[·]?) := by
    rw [List.filterMap_map]
    rfl
  rw [r, q, List.filterMap_reverse, PySem.W.krv_all]
theorem getItem_tuple_rev {t sl : Addr} {items : Array Value} {vl vu vs : Value} {Q : Value → Shared → Prop} (ht : IsTup s.heap t items) (hs : s.heap.IsSliceOf sl vl vu vs) (pl : IsPart vl none) (pu : IsPart vu none) (ps : IsPart vs (some (-1)))
    (h : Q (.ref s.heap.objs.size) { s with heap := s.heap.push { cls := .type "tuple", data := .seq items.toList.reverse.toArray } })
    (hsz : items.size ≤ sizeLine) : wpAny (model prog w) A (getItem (.ref t) (.ref sl)) Q E s := by
  have htake : sizeOk (.seq items.toList.reverse.toArray) := by
    show items.toList.reverse.toArray.size ≤ sizeLine
    rw [List.size_toArray, List.length_reverse, Array.length_toList]
    exact hsz
  obtain ⟨os, hos, hcs, hds⟩ := id hs
  have hTs : s.TypeIs (.ref sl) "slice" := ⟨os, hos, hcs⟩
  unfold getItem
  try with_reducible refine wpAny_holding ?_
  first | refine wpAny_bind (wpAny_pure ?_) | skip
  refine wpAny_bind (wpAny_sequenceKey ht.typeIs (by decide) ?_)
  refine wpAny_bind (wpAny_callSpecial?_slot (name := Str.ofString "__getitem__") ht.typeIs PyProof.Rows.slot_tuple_getitem
    (wpAny_call_entry PyProof.Rows.slot_tuple_getitem ht.typeIs entry_tuple_getitem ?_ (args_tuple_getitem _ _)))
  show wpAny _ _ (Builtin.Tuple.tupleItemsOf (.ref t) >>= _) _ _ s
  refine wpAny_bind (tupleItemsOf_ ht ?_)
  refine wpAny_bind (wpAny_typeOf hTs ?_)
  rw [if_pos (by decide)]
  refine wpAny_bind (applied_rev hs pl pu ps ?_)
  have hno : ¬ ((((items.size : Int) - 1) == 0 && (-1 : Int) == 1 && items.size == items.size) = true) := by simp
  show wpAny _ _ (if (((items.size : Int) - 1) == 0 && (-1 : Int) == 1 && items.size == items.size) = true then _ else _) _ _ s
  rw [if_neg hno, pick_rev]
  first
    | exact wpAny_bind (m := Builtin.Tuple.tupleExact _) (wpAny_newObj_type (wpAny_pure ⟨_, rfl, wpAny_pure h⟩) htake)
    | exact wpAny_bind (m := Builtin.Tuple.tupleExact _) (wpAny_newObj_type (wpAny_bind (wpAny_pure (wpAny_pure ⟨_, rfl, wpAny_pure h⟩))) htake)
    | exact wpAny_bind (wpAny_bind (m := Builtin.Tuple.tupleExact _) (wpAny_newObj_type (wpAny_pure (wpAny_pure ⟨_, rfl, wpAny_pure h⟩)) htake))
    | exact wpAny_bind (wpAny_bind (m := Builtin.Tuple.tupleExact _) (wpAny_newObj_type (wpAny_pure ⟨_, rfl, wpAny_pure h⟩) htake))
end
end DLT
namespace DL
open PySem PySem.Spec PyProof.Rows L2
section
variable {X : Cx} {cls : Nat → Value} {W : WX} {pos : Pos} {a b c : Expr} {fa fb fc : Ex} {k : Nat}
/-! ### x[::-1] -/
def tRevT (K : PySem.W.Frag) (te : TE) : TE := fun σ H Q => te σ H fun x H1 => ∃ a xs, x = .ref a ∧ SqT K H1 a xs ∧ ∀ p, H1 p = none → Q (.ref p) (upd H1 p (.tup xs.reverse))
theorem pe_revT {e : Expr} {te : TE} {k : Nat} {p1 p2 p3 pos : Pos} (he : PE X e te) : PE X (.Subscript e (.Slice none none (some (.UnaryOp .USub (.Constant (.int 1) k p1) p2)) p3) pos) (tRevT X.K te) := by
  refine ⟨fun pins s σ H Q I h => ?_⟩
  refine Subscript_ (thn (he.run pins s σ H _ I h) fun v s1 ⟨x, H1, I1, r1, q1⟩ => ?_)
  obtain ⟨a, xs, ex, hx, q⟩ := q1
  subst ex
  cases r1
  have hst : PO X (some (.UnaryOp .USub (.Constant (.int 1) k p1) p2)) (tPart (tUn (rU fun i => .int (-i)) (tC (.int 1)))) := po_some (pe_un un_neg pe_int)
  refine wpAny_Slice (thn (po_none.run pins s1 σ H1 (fun o H2 => o = none ∧ H2 = H1) I1 ⟨rfl, rfl⟩) fun vl s2 ⟨l, H2, I2, pl, el, e2⟩ => ?_)
  subst el e2
  refine thn (po_none.run pins s2 σ H2 (fun o H3 => o = none ∧ H3 = H2) I2 ⟨rfl, rfl⟩) fun vu s3 ⟨u, H3, I3, pu, eu, e3⟩ => ?_
  subst eu e3
  refine thn (hst.run pins s3 σ H3 (fun o H4 => o = some (-1) ∧ H4 = H3) I3 ⟨1, rfl, -1, rfl, rfl, rfl⟩) fun vs s4 ⟨o, H4, I4, ps, eo, e4⟩ => ?_
  subst eo e4
  have I5 : Inv X pins σ H4 { s4 with heap := s4.heap.push { cls := .type "slice", data := .fields #[vl, vu, vs] } } := I4.kept (t' := s4.toks) fun b ob q => Heap.get?_push_of_some _ q
  obtain ⟨its, r, ht, hz⟩ := I5.tuple hx
  have hlen := r.length
  show wpAny (model X.prog X.w) X.A (subscriptTail e (.Slice none none (some (.UnaryOp .USub (.Constant (.int 1) k p1) p2)) p3) (.ref a) (.ref s4.heap.objs.size)) (EP X pins σ Q) X.xe { s4 with heap := s4.heap.push { cls := .type "slice", data := .fields #[vl, vu, vs] } }
  refine tail_any (ops := [.ref a, .ref s4.heap.objs.size]) ht.typeIs (PyProof.Rows.slot_tuple_getitem.lookup) ?_ (by with_unfolding_all rfl)
  refine DLT.getItem_tuple_rev ht (Heap.IsSliceOf.new _ vl vu vs) pl pu ps ?_ (by rw [List.size_toArray]; omega)
  refine ⟨.ref _, _, I5.laid (t' := s4.toks) (o := .tup xs.reverse) (fun b ob q => Heap.get?_push_of_some _ q) (Nat.le_refl _) ?_, rfl, q _ (I5.hok.fresh (Nat.le_refl _))⟩
  exact ⟨by rw [List.length_reverse]; exact hz, _, r.reverse, ⟨_, Heap.get?_push_size _ rfl, rfl, _, rfl⟩⟩
@[simp] def revD : PyData → Option PyData
  | .list ds => some (.list ds.reverse)
  | .tuple ds => some (.tuple ds.reverse)
  | _ => none
theorem pd_rev {e : Expr} {k : Nat} {p1 p2 p3 pos : Pos} (he : PE X e (tE cls W fa)) : PE X (.Subscript e (.Slice none none (some (.UnaryOp .USub (.Constant (.int 1) k p1) p2)) p3) pos) (tE cls W (unD revD fa)) := by
  refine ⟨fun pins s σ H Q I0 h => ?_⟩
  obtain ⟨B, S, ρ, g, I, h⟩ := h
  unfold unD at h
  cases ea : fa ρ g with
  | bad => rw [ea] at h; exact False.elim h
  | ex n g1 =>
    rw [ea] at h
    refine (pe_revL he).run pins s σ H Q I0 ⟨B, S, ρ, g, I, ?_⟩
    rw [ea]
    exact h
  | ok x g1 =>
    rw [ea] at h
    simp only [R.bind_ok] at h
    cases x with
    | list ds =>
      refine (pe_revL he).run pins s σ H Q I0 ⟨B, S, ρ, g, I, ?_⟩
      rw [ea]
      intro v H1 S1 I1 e1 r1
      cases r1 with
      | @lst p xs ds hx qx =>
        refine ⟨p, xs, rfl, .of (I1.sub _ _ hx), fun q hq => ?_⟩
        obtain ⟨I2, e2⟩ := I1.alloc (o := .lst xs.reverse) hq
        exact h _ _ _ I2 (e1.trans e2) (.lst upd_same (qx.reverse.mono e2.base))
    | tuple ds =>
      refine (pe_revT he).run pins s σ H Q I0 ⟨B, S, ρ, g, I, ?_⟩
      rw [ea]
      intro v H1 S1 I1 e1 r1
      cases r1 with
      | @tup p xs ds hx qx =>
        refine ⟨p, xs, rfl, .of (I1.sub _ _ hx), fun q hq => ?_⟩
        obtain ⟨I2, e2⟩ := I1.alloc (o := .tup xs.reverse) hq
        exact h _ _ _ I2 (e1.trans e2) (.tup upd_same (qx.reverse.mono e2.base))
    | _ => exact False.elim h
/-! ### the draws' object -/
/-- draws[0], draws[1]: the draws in slot i -/
@[simp] def dr0 (i : Nat) : Ex := fun ρ g => match ρ[i]?, g with
  | some .dr, some (ns, _) => .ok (.list (ns.map PyData.int)) g
  | _, _ => .bad
@[simp] def dr1 (i : Nat) : Ex := fun ρ g => match ρ[i]?, g with
  | some .dr, some (_, j) => .ok (.int j) g
  | _, _ => .bad
variable {x : Str} {p p2 : Pos} {j : Nat}
theorem pd_dr0 (i : Nat) (hN : X.N[i]? = some x := by rfl) (hv : Vis X.env.scope x := by first | exact Or.inl rfl | exact Or.inr (Or.inl rfl) | exact Or.inr (Or.inr rfl)) (hd : (x == ("__debug__" : Str)) = false := by decide) (hcd : (x == ("__classdict__" : Str)) = false := by decide) :
    PE X (.Subscript (.Name x p) (.Constant (.int 0) j p2) pos) (tE cls W (dr0 i)) := PE_imp (pe_ix ix_list (pe_var hN hv hd hcd) pe_int (fun _ _ => rfl)) fun σ H Q ⟨B, S, ρ, g, I, h⟩ => by
  unfold dr0 at h
  split at h
  · rename_i ns k ei
    obtain ⟨_, vn, h1, h2⟩ := (show DrAt B H S (some (ns, k)) from I.dr)
    exact ⟨_, (I.dw i ei).1, B.A, _, 0, vn, rfl, rfl, .of h1, rfl, h vn H S I .refl h2⟩
  · exact False.elim h
theorem pd_dr1 (i : Nat) (hN : X.N[i]? = some x := by rfl) (hv : Vis X.env.scope x := by first | exact Or.inl rfl | exact Or.inr (Or.inl rfl) | exact Or.inr (Or.inr rfl)) (hd : (x == ("__debug__" : Str)) = false := by decide) (hcd : (x == ("__classdict__" : Str)) = false := by decide) :
    PE X (.Subscript (.Name x p) (.Constant (.int 1) j p2) pos) (tE cls W (dr1 i)) := PE_imp (pe_ix ix_list (pe_var hN hv hd hcd) pe_int (fun _ _ => rfl)) fun σ H Q ⟨B, S, ρ, g, I, h⟩ => by
  unfold dr1 at h
  split at h
  · rename_i ns k ei
    obtain ⟨_, vn, h1, h2⟩ := (show DrAt B H S (some (ns, k)) from I.dr)
    exact ⟨_, (I.dw i ei).1, B.A, _, 1, .int k, rfl, rfl, .of h1, rfl, h _ H S I .refl (.int k)⟩
  · exact False.elim h
/-- draws[1] = e -/
def drSetS (i : Nat) (f : Ex) : Sm := stE f fun d ρ g => match ρ[i]?, g, d with
  | some .dr, some (ns, _), .int j => .nx ρ (some (ns, j))
  | _, _, _ => .bad
theorem Good.setDr {B : Bs} {σ : L2.St} {H S : Hp} {ρ : Nv} {ns : List Int} {k j : Int} {vn : V} (I : Good B σ H S ρ (some (ns, k))) (h1 : H B.A = some (.lst [vn, .int k])) (h2 : Rp S vn (.list (ns.map PyData.int))) : Good B σ (upd H B.A (.lst [vn, .int j])) S ρ (some (ns, j)) := by
  obtain ⟨hl, _⟩ := (show DrAt B H S (some (ns, k)) from I.dr)
  have no := I.no hl
  refine ⟨⟨fun c o q => ?_, fun c o q n => ?_, I.base, I.new, fun c q => ?_, I.no, ⟨hl, vn, upd_same, h2⟩⟩, I.len, I.sh, I.dw, I.sw, fun i b h => ?_, I.ap⟩
  · rw [upd_ne (ne_of_none q no)]; exact I.sub _ _ q
  · rw [upd_ne (n hl)]; exact I.keep c o q n
  · by_cases hc : c = B.A
    · subst hc; rw [upd_same]; simp
    · rw [upd_ne hc]; exact I.there c q
  · obtain ⟨a, o, q1, q2, q3, q4, q5, q6⟩ := I.ow i b h
    exact ⟨a, o, q1, q2, q3, q4, by rw [upd_ne (q3 hl)]; exact q5, q6⟩
theorem psd_drSet (i : Nat) {pos' : Pos} (ha : PE X a (tE cls W fa)) (hN : X.N[i]? = some x := by rfl) (hv : Vis X.env.scope x := by first | exact Or.inl rfl | exact Or.inr (Or.inl rfl) | exact Or.inr (Or.inr rfl)) (hd : (x == ("__debug__" : Str)) = false := by decide) (hcd : (x == ("__classdict__" : Str)) = false := by decide)
    (h0 : ∀ v, assign (.Subscript (.Name x p) (.Constant (.int 1) j p2) pos') X.env v = (do
      let ov ← holding [v] (eval (.Name x p) X.env)
      let iv ← holding [v, ov] (eval (.Constant (.int 1) j p2) X.env)
      standAt pos'
      holding [v, ov, iv] (setItem ov iv v)
      release [v, ov, iv] []) := by intro _; rfl)
    (hs : swapsWithSole [.Subscript (.Name x p) (.Constant (.int 1) j p2) pos'] a pos.line X.env = pure false := by rfl) (hw : swappedStores [.Subscript (.Name x p) (.Constant (.int 1) j p2) pos'] a X.env = pure none := by rfl)
    (h1 : (assignEach [.Subscript (.Name x p) (.Constant (.int 1) j p2) pos'] X.env).map (·.2) = [assign (.Subscript (.Name x p) (.Constant (.int 1) j p2) pos') X.env] := by rfl) :
    PS X (.Assign [.Subscript (.Name x p) (.Constant (.int 1) j p2) pos'] a pos) (tS cls W (drSetS i fa)) :=
  PS_imp (ps_asg ha (pg_sub (pe_var hN hv hd hcd) pe_int set_list h0) hs hw h1) fun D σ H h => st_of h fun B S ρ g d v H1 I r q => by
    split at q
    · rename_i ns k m ei
      cases r with
      | int m =>
        obtain ⟨hl, vn, e1, e2⟩ := (show DrAt B H1 S (some (ns, k)) from I.dr)
        exact ⟨_, (I.dw i ei).1, B.A, _, 1, 1, rfl, rfl, e1, rfl, q _ _ _ (I.setDr e1 e2) (Same.refl _)⟩
    · exact False.elim q
/-! ### more -/
theorem psd_aug_add (i : Nat) {x : Str} {pos' : Pos} (hN : X.N.Nodup) (ha : PE X a (tE cls W fa)) (hi : X.N[i]? = some x := by rfl) (hx : Loc X.env.scope x := by first | exact Or.inl rfl | exact Or.inr rfl)
    (hf : X.fn x = true ∨ X.env.scope.names.lookup x = some .local := by first | exact .inl rfl | exact .inr rfl | assumption) : PS X (.AugAssign (.Name x pos') .Add a pos) (tS cls W (setS i (opD (fun x y => match x, y with | .int i, .int j => some (.int (i + j)) | _, _ => none) (varD i) fa))) :=
  PS_imp (ps_aug hN hi hx ha ip_add hf) fun D σ H ⟨B, S, ρ, g, I, h⟩ => by
    unfold setS stE opD varD at h
    cases e : ρ[i]? with
    | none => simp only [e, R.bind_bad] at h; exact False.elim h
    | some z =>
      cases z with
      | sh d =>
        simp only [e, R.bind_ok] at h
        obtain ⟨v, h1, h2⟩ := I.sh i d e
        refine ⟨v, h1, B, S, ρ, g, I, ?_⟩
        cases ea : fa ρ g with
        | bad => rw [ea] at h; exact h
        | ex n g1 => rw [ea] at h; exact fun H' S' I' e => h _ _ _ I' e.base
        | ok y g1 =>
          rw [ea] at h
          simp only [R.bind_ok] at h
          intro u H1 S1 I1 e1 r1
          cases h2 with
          | int m =>
            cases r1 with
            | int n => exact ⟨m, n, rfl, rfl, h _ _ _ (I1.setSh i (.int _)) e1.base⟩
            | _ => exact False.elim h
          | _ => exact False.elim h
      | _ => simp only [e, R.bind_bad] at h; exact False.elim h
/-- a body that never ends well: for what is never come to -/
theorem pssd_bad {sts : List Stmt} : PSs X sts (tS cls W fun _ _ => .bad) := PSs_imp pss_never fun D σ H ⟨B, S, ρ, g, I, h⟩ => h
end
end DL

set_option Elab.async false
set_option linter.all false
set_option maxRecDepth 100000
set_option maxHeartbeats 400000
namespace DL
open PySem PySem.Spec PyProof.Rows L2
section
variable {P : Program} {w : World} {K : PySem.W.Frag} {mg : Str → Option Value} {base : Heap} {cls : Nat → Value}
theorem kept_bad {x : Str} {st : Stmt} {ps : List Str} {k : Nat} {dr : Bool} (Fx : ∃ (f : Addr) (fd : FuncData), Fun K x x st f fd ∧ mg x = some (.ref f) ∧ L2.Binds K fd ps []) : Kept P w K mg base cls x ps dr (fun _ _ => .bad) k := by
  obtain ⟨f, fd, F, hm, hb⟩ := Fx
  refine ⟨f, fd, hm, F.kp, hb, ⟨fun vs H Q E h => h.1, fun A outer s H args us vs Q E hr he hb hv hs => ?_⟩⟩
  obtain ⟨_, _, _, _, _, _, _, _, _, _, _, h⟩ := hs
  exact False.elim h
theorem Kept.mono {x : Str} {ps : List Str} {dr : Bool} {m : Fn} {j k : Nat} (F : Kept P w K mg base cls x ps dr m j) (h : j ≤ k) : Kept P w K mg base cls x ps dr m k := by
  obtain ⟨f, fd, h1, h2, h3, h4⟩ := F.ex
  exact ⟨f, fd, h1, h2, h3, h4.mono h⟩
/-! ### the script's numbers -/
def Small (ms : List Int) : Prop := ms.length ≤ 4000 ∧ ∀ m ∈ ms, 0 ≤ m ∧ m < 1000000
def spNum (K : PySem.W.Frag) : Sp := fun vs H Q _ => vs.length = 1 ∧ ∃ (a : Addr) (ns : List Int), vs = [.ref a] ∧ SqL K H a (ns.map V.int) ∧ ns.length ≤ 63 ∧ Only H ∧
  ∀ (p : Addr) (H' : Hp) (ms : List Int), Same H H' → H p = none → H' p = some (.lst (ms.map V.int)) → Small ms → Q (.ref p) H'
/-- what stands locked -/
def locked (H : Hp) : Hp := fun b => match H b with
  | some (.frz o u) => some (.frz o u)
  | _ => none
theorem locked_some {H : Hp} {b : Addr} {o : HO} (h : locked H b = some o) : H b = some o ∧ ∃ o' u, o = .frz o' u := by
  unfold locked at h
  split at h
  · rename_i o' u e
    cases h
    exact ⟨e, _, _, rfl⟩
  · cases h
theorem sq_locked {H : Hp} {a : Addr} {xs : List V} (ho : Only H) (h : SqL K H a xs) : SqL K (locked H) a xs := by
  rcases h with (h | ⟨o, h⟩) | h
  · rcases ho a with z | ⟨o, ys, z⟩
    · rw [z] at h; cases h
    · rw [z] at h; cases h
  · refine .inl (.inr ⟨o, ?_⟩)
    unfold locked
    rw [h]
  · exact .inr h
theorem num_start {H : Hp} {a : Addr} {N : List Str} {n : Nat} (hn : N.length - 1 = n) : Good ⟨0, false, locked H, H, a⟩ (L2.start N [.ref a]) H (locked H) (.sc :: List.replicate n .no) none := by
  have rep : ∀ (i : Nat) (z : Sl), z ≠ .no → (List.replicate n Sl.no)[i]? ≠ some z := fun i z hz h => by
    rw [List.getElem?_replicate] at h
    split at h
    · exact hz (Option.some.inj h).symm
    · cases h
  refine ⟨⟨fun b o h => (locked_some h).1, fun _ _ h _ => h, Same.refl _, fun _ h => .inl h, fun _ h => h, (fun z => nomatch z), rfl⟩, ?_, fun i d h => ?_, fun i h => ?_, fun i h => ?_, fun i b h => ?_, fun i j b c x h _ _ _ => ?_⟩
  · unfold L2.start
    rw [List.length_append, List.length_replicate]
    show 1 + (N.length - 1) = (List.replicate n Sl.no).length + 1
    rw [List.length_replicate]
    omega
  · cases i with
    | zero => cases h
    | succ i => exact absurd h (rep i _ (fun z => nomatch z))
  · cases i with
    | zero => cases h
    | succ i => exact absurd h (rep i _ (fun z => nomatch z))
  · cases i with
    | zero => rfl
    | succ i => exact absurd h (rep i _ (fun z => nomatch z))
  · cases i with
    | zero => cases h
    | succ i => exact absurd h (rep i _ (fun z => nomatch z))
  · cases i with
    | zero => cases h
    | succ i => exact absurd h (rep i _ (fun z => nomatch z))
/-- numbers = [] / for .. in script: .. / return numbers -/
theorem num_ok {st : Stmt} {N : List Str} {k : Nat} {t : Tg} {sb : Sm} (Fx : ∃ (f : Addr) (fd : FuncData), Fun K "_law_numbers" "_law_numbers" st f fd ∧ mg "_law_numbers" = some (.ref f) ∧ L2.Binds K fd ["script"] []) (S : FnScope N ["script"] (defScope st)) {n : Nat}
    (hd : ∀ (f : Addr) (cdv : Value) (A : Around) (outer : List PySem.Env) (s : Shared) (H : Hp) (E : XK) (ns : List Int), Room k (A.deeper (envOfC "_law_numbers" (defScope st) s.heap.objs.size f cdv)) →
      PSs (cxOf (L2.CX P w) P w K mg base N "_law_numbers" (defScope st) f cdv A outer s H E) (defBody st) (tSeq (tS cls (fun c d _ H => E c d H) (setOS 1 (lstO nilD))) (tSeq (tScF K cls (fun c d _ H => E c d H) 0 ns t sb) (tS cls (fun c d _ H => E c d H) (shutS 1 (retS (varD 1)))))))
    (hm : ∀ ns : List Int, ns.length ≤ 63 → ∃ (ms : List Int) (ρ' : Nv), Small ms ∧ forD t sb (ns.map PyData.int) (.sc :: .ow (.lst []) :: List.replicate (n - 1) .no) none = .nx ρ' none ∧ ρ'[1]? = some (.ow (.lst (ms.map PyData.int)))) (hn : N.length - 1 = n := by rfl) (h1 : 1 ≤ n := by decide) :
    ∃ (f : Addr) (fd : FuncData), mg "_law_numbers" = some (.ref f) ∧ PySem.W.keepIn K (.ref f) = true ∧ L2.Binds K fd ["script"] [] ∧ FnOk P w K mg base (L2.CX P w) (k + 1) f fd ["script"] (spNum K) := by
  obtain ⟨f, fd, F, hmg, hb⟩ := Fx
  refine ⟨f, fd, hmg, F.kp, hb, F.okX S (fun vs H Q E h => h.1) fun cdv A outer s H vs Q E hr h => ?_⟩
  obtain ⟨_, a, ns, rfl, hq, hl, ho, h⟩ := h
  refine ⟨_, hd f cdv A outer s H E ns hr, ⟨0, false, locked H, H, a⟩, locked H, _, none, num_start hn, ?_⟩
  show ∀ σ' H' S', _
  intro σ1 H1 S1 I1 e1
  have er : (Sl.sc :: List.replicate n Sl.no).set 1 (.ow (.lst [])) = .sc :: .ow (.lst []) :: List.replicate (n - 1) .no := by
    obtain ⟨m, rfl⟩ : ∃ m, n = m + 1 := ⟨n - 1, by omega⟩
    rfl
  rw [er] at I1
  refine ⟨_, S1, _, none, I1, rfl, sq_locked ho hq, ?_⟩
  obtain ⟨ms, ρ', hs, hf, hρ⟩ := hm ns hl
  rw [hf]
  intro σ2 H2 S2 I2 e2
  refine ⟨_, S2, ρ', none, I2, ?_⟩
  have il : 1 < ρ'.length := (List.getElem?_eq_some_iff.mp hρ).1
  have hsh : shutS 1 (retS (varD 1)) ρ' none = .rt (.list (ms.map PyData.int)) none := by
    unfold shutS
    rw [hρ]
    show (retS (varD 1)) (ρ'.set 1 (.sh (.list (ms.map PyData.int)))) none = _
    unfold retS stE varD
    rw [List.getElem?_set_self il]
  rw [hsh]
  intro v H3 S3 F3 r3
  cases r3 with
  | @lst p xs ds hx qx =>
    have ex := qx.ints
    subst ex
    refine h p H3 ms (fun b o e => F3.keep b o e (fun z => nomatch z)) ?_ (F3.sub _ _ hx) hs
    rcases F3.new p (by rw [hx]; simp) with z | z
    · exfalso
      cases e : locked H p with
      | none => exact z e
      | some o =>
        obtain ⟨_, o', u, rfl⟩ := locked_some e
        rw [F3.base p _ e] at hx
        cases hx
    · exact z
/-! ### the law -/
def spLaw (K : PySem.W.Frag) : Sp := fun vs H Q _ => ∃ (a : Addr) (ns : List Int), vs = [.ref a] ∧ SqL K H a (ns.map V.int) ∧ ns.length ≤ 63 ∧ Only H ∧ ∀ H', Q (.bl true) H'
theorem law_start {H : Hp} {a p q : Addr} {ms : List Int} {N : List Str} {n : Nat} (hn : N.length - 2 = n) (hp : H p = some (.lst (ms.map V.int))) (hq : H q = none) :
    Good ⟨q, true, upd (fun _ => none) p (.lst (ms.map V.int)), upd H q (.lst [.ref p, .int 0]), 0⟩ (some (.ref a) :: some (.ref q) :: List.replicate n none) (upd H q (.lst [.ref p, .int 0])) (upd (fun _ => none) p (.lst (ms.map V.int))) (.no :: .dr :: List.replicate n .no) (some (ms, 0)) := by
  have hpq : p ≠ q := ne_of_none hp hq
  have rep : ∀ (i : Nat) (z : Sl), z ≠ .no → (List.replicate n Sl.no)[i]? ≠ some z := fun i z hz h => by
    rw [List.getElem?_replicate] at h
    split at h
    · exact hz (Option.some.inj h).symm
    · cases h
  have only : ∀ (i : Nat) (z : Sl), z ≠ .no → z ≠ .dr → (Sl.no :: .dr :: List.replicate n .no)[i]? ≠ some z := fun i z h1 h2 h => by
    match i, h with
    | 0, h => exact h1 (Option.some.inj h).symm
    | 1, h => exact h2 (Option.some.inj h).symm
    | i + 2, h => exact rep i z h1 h
  refine ⟨⟨fun b o h => ?_, fun _ _ h _ => h, Same.refl _, fun _ h => .inl h, fun _ h => h, fun _ => ?_, ⟨rfl, .ref p, upd_same, .lst upd_same (Rps.of_ints ms)⟩⟩, ?_, fun i d h => absurd h (only i _ (fun z => nomatch z) (fun z => nomatch z)), fun i h => ?_, fun i h => absurd h (only i _ (fun z => nomatch z) (fun z => nomatch z)), fun i b h => absurd h (only i _ (fun z => nomatch z) (fun z => nomatch z)), fun i j b c x h _ _ _ => absurd h (only i _ (fun z => nomatch z) (fun z => nomatch z))⟩
  · by_cases hb : b = p
    · subst hb
      rw [upd_same] at h
      rw [upd_ne hpq, hp, ← h]
    · rw [upd_ne hb] at h
      cases h
  · exact upd_ne (Ne.symm hpq)
  · rw [List.length_cons, List.length_cons, List.length_cons, List.length_cons, List.length_replicate, List.length_replicate]
  · match i, h with
    | 0, h => cases h
    | 1, _ => exact ⟨rfl, rfl⟩
    | i + 2, h => exact absurd h (rep i _ (fun z => nomatch z))
/-- the law: draws = [_law_numbers(script), 0], then a body that hands back True -/
theorem law_ok {st : Stmt} {N : List Str} {k : Nat} {body : Sm} {f : Addr} {fd : FuncData} (F : Fun K "law" "law" st f fd) (S : FnScope N ["script"] (defScope st)) {n : Nat}
    (hd : ∀ (cdv : Value) (A : Around) (outer : List PySem.Env) (s : Shared) (H : Hp) (E : XK), Room k (A.deeper (envOfC "law" (defScope st) s.heap.objs.size f cdv)) →
      PSs (cxOf (L2.CX P w) P w K mg base N "law" (defScope st) f cdv A outer s H E) (defBody st) (tSeq (tAsg (tLst (tCons (tCallS (spNum K) (WE fun c d _ H => E c d H) (tCons (tVar 0) tNil)) (tCons (tC (.int 0)) tNil))) (gName 1)) (tS cls (fun c d _ H => E c d H) body)))
    (hm : ∀ ms : List Int, Small ms → ∃ g', body (.no :: .dr :: List.replicate n .no) (some (ms, 0)) = .rt (.bool true) g') (hn : N.length - 2 = n := by rfl) (h2 : 2 ≤ N.length := by decide) : FnOk P w K mg base (L2.CX P w) (k + 1) f fd ["script"] (spLaw K) := by
  refine F.okX S (fun vs H Q E h => ?_) fun cdv A outer s H vs Q E hr h => ?_
  · obtain ⟨a, ns, rfl, _⟩ := h
    rfl
  · obtain ⟨a, ns, rfl, hq, hl, ho, h⟩ := h
    refine ⟨_, hd cdv A outer s H E hr, ?_⟩
    have e0 : (L2.start N [V.ref a])[0]? = some (some (.ref a)) := rfl
    refine ⟨.ref a, e0, rfl, a, ns, rfl, hq, hl, ho, fun p H1 ms sm np hp hs => ?_⟩
    refine ⟨by show 2 ≤ sizeLine; rw [sizeLine_eq]; decide, fun q hq1 => ?_⟩
    obtain ⟨g', hb⟩ := hm ms hs
    have est : (L2.start N [V.ref a]).set 1 (some (.ref q)) = some (.ref a) :: some (.ref q) :: List.replicate n none := by
      unfold L2.start
      obtain ⟨m, hm'⟩ : ∃ m, N.length - [V.ref a].length = m + 1 := ⟨N.length - 2, by show N.length - 1 = _; omega⟩
      have : m = n := by
        have : N.length - 1 = m + 1 := hm'
        omega
      rw [hm', this]
      rfl
    show (tS cls _ body) _ ((L2.start N [V.ref a]).set 1 (some (.ref q))) _
    rw [est]
    refine ⟨_, _, _, _, law_start hn hp hq1, ?_⟩
    rw [hb]
    intro v H2 S2 F2 r2
    cases r2
    exact h H2
end
end DL

set_option Elab.async false
set_option linter.all false
set_option maxRecDepth 100000
set_option maxHeartbeats 400000
/-! plain facts about mirrors -/
namespace DL
open PySem
@[simp] theorem setS_ap (i : Nat) (f : Ex) (ρ : Nv) (g : G) : setS i f ρ g = match f ρ g with
  | .ok d g1 => .nx (ρ.set i (.sh d)) g1
  | .ex n g1 => .ex n ρ g1
  | .bad => .bad := rfl
@[simp] theorem asgS_ap (f : Ex) (t : Tg) (ρ : Nv) (g : G) : asgS f t ρ g = match f ρ g with
  | .ok d g1 => match t d ρ with
    | some ρ1 => .nx ρ1 g1
    | none => .bad
  | .ex n g1 => .ex n ρ g1
  | .bad => .bad := rfl
@[simp] theorem dropS_ap (f : Ex) (ρ : Nv) (g : G) : dropS f ρ g = match f ρ g with
  | .ok _ g1 => .nx ρ g1
  | .ex n g1 => .ex n ρ g1
  | .bad => .bad := rfl
@[simp] theorem retS_ap (f : Ex) (ρ : Nv) (g : G) : retS f ρ g = match f ρ g with
  | .ok d g1 => .rt d g1
  | .ex n g1 => .ex n ρ g1
  | .bad => .bad := rfl
@[simp] theorem drSetS_ap (i : Nat) (f : Ex) (ρ : Nv) (g : G) : drSetS i f ρ g = match f ρ g with
  | .ok d g1 => match ρ[i]?, g1, d with
    | some .dr, some (ns, _), .int j => .nx ρ (some (ns, j))
    | _, _, _ => .bad
  | .ex n g1 => .ex n ρ g1
  | .bad => .bad := rfl
/-- a loop by what holds behind each part of its items -/
theorem forD_all {α : Type} {t : Tg} {body : Sm} (enc : α → PyData) (R : List α → Nv → G → Prop) (xs : List α) (h : ∀ pre x post, xs = pre ++ x :: post → ∀ ρ g, R pre ρ g → ∃ ρ1 ρ2 g2, t (enc x) ρ = some ρ1 ∧ (body ρ1 g = .nx ρ2 g2 ∨ body ρ1 g = .ct ρ2 g2) ∧ R (pre ++ [x]) ρ2 g2) {ρ : Nv} {g : G} (h0 : R [] ρ g) :
    ∃ ρ' g', forD t body (xs.map enc) ρ g = .nx ρ' g' ∧ R xs ρ' g' := by
  have key : ∀ (post pre : List α) ρ g, xs = pre ++ post → R pre ρ g → ∃ ρ' g', forD t body (post.map enc) ρ g = .nx ρ' g' ∧ R xs ρ' g' := by
    intro post
    induction post with
    | nil =>
      intro pre ρ g e r
      rw [List.append_nil] at e
      subst e
      exact ⟨ρ, g, rfl, r⟩
    | cons x post ih =>
      intro pre ρ g e r
      obtain ⟨ρ1, ρ2, g2, h1, h2, h3⟩ := h pre x post e ρ g r
      obtain ⟨ρ', g', h4, h5⟩ := ih (pre ++ [x]) ρ2 g2 (by rw [e, List.append_assoc]; rfl) h3
      refine ⟨ρ', g', ?_, h5⟩
      rw [List.map_cons]
      unfold forD
      rw [h1]
      rcases h2 with h2 | h2
      · simp only [h2, h4]
      · simp only [h2, h4]
  exact key xs [] ρ g rfl h0
/-- a comprehension by what holds behind each part of its items -/
theorem compD_all {α : Type} {t : Tg} {cond : Te} {elt : Ex} (enc : α → PyData) (R : List α → List PyData → G → Prop) (xs : List α) (ρ : Nv)
    (h : ∀ pre x post, xs = pre ++ x :: post → ∀ ys g, R pre ys g → ∃ ρ1 g1, t (enc x) ρ = some ρ1 ∧ ((cond ρ1 g = .ok false g1 ∧ R (pre ++ [x]) ys g1) ∨ (cond ρ1 g = .ok true g1 ∧ ∃ y g2, elt ρ1 g1 = .ok y g2 ∧ R (pre ++ [x]) (ys ++ [y]) g2))) {g : G} (h0 : R [] [] g) :
    ∃ ys g', compD t cond elt (xs.map enc) ρ g = .ok ys g' ∧ R xs ys g' := by
  have key : ∀ (post pre : List α) ys g, xs = pre ++ post → R pre ys g → ∃ zs g', compD t cond elt (post.map enc) ρ g = .ok zs g' ∧ R xs (ys ++ zs) g' := by
    intro post
    induction post with
    | nil =>
      intro pre ys g e r
      rw [List.append_nil] at e
      subst e
      exact ⟨[], g, rfl, by rw [List.append_nil]; exact r⟩
    | cons x post ih =>
      intro pre ys g e r
      obtain ⟨ρ1, g1, h1, h2⟩ := h pre x post e ys g r
      rcases h2 with ⟨h2, h3⟩ | ⟨h2, y, g2, h3, h4⟩
      · obtain ⟨zs, g', h4, h5⟩ := ih (pre ++ [x]) ys g1 (by rw [e, List.append_assoc]; rfl) h3
        refine ⟨zs, g', ?_, h5⟩
        rw [List.map_cons]
        unfold compD
        rw [h1]
        simp only [h2, h4]
      · obtain ⟨zs, g', h5, h6⟩ := ih (pre ++ [x]) (ys ++ [y]) g2 (by rw [e, List.append_assoc]; rfl) h4
        refine ⟨y :: zs, g', ?_, by rw [List.append_assoc] at h6; exact h6⟩
        rw [List.map_cons]
        unfold compD
        rw [h1]
        simp only [h2, h3, h5]
        rfl
  obtain ⟨zs, g', h1, h2⟩ := key xs [] [] g rfl h0
  exact ⟨zs, g', h1, h2⟩
/-- a comprehension that draws nothing: filter and map -/
theorem compD_pure {α : Type} {t : Tg} {cond : Te} {elt : Ex} (enc : α → PyData) (c : α → Bool) (e : α → PyData) (xs : List α) (ρ : Nv) (g : G)
    (h : ∀ x ∈ xs, ∃ ρ1, t (enc x) ρ = some ρ1 ∧ cond ρ1 g = .ok (c x) g ∧ (c x = true → elt ρ1 g = .ok (e x) g)) : compD t cond elt (xs.map enc) ρ g = .ok ((xs.filter c).map e) g := by
  induction xs with
  | nil => rfl
  | cons x xs ih =>
    obtain ⟨ρ1, h1, h2, h3⟩ := h x List.mem_cons_self
    have ih' := ih fun y hy => h y (List.mem_cons_of_mem _ hy)
    rw [List.map_cons]
    unfold compD
    rw [h1]
    simp only
    rw [h2]
    cases hc : c x with
    | false =>
      simp only [ih']
      rw [List.filter_cons_of_neg (by rw [hc]; decide)]
    | true =>
      simp only [h3 hc, ih']
      rw [List.filter_cons_of_pos hc]
      rfl
theorem upFrom_zero (lo : Int) : upFrom lo 0 = [] := rfl
theorem upFrom_succ (lo : Int) (n : Nat) : upFrom lo (n + 1) = .int lo :: upFrom (lo + 1) n := by
  unfold upFrom
  rw [List.range_succ_eq_map, List.map_cons, List.map_map]
  congr 1
  · simp
  · apply List.map_congr_left
    intro k _
    show PyData.int (lo + ((k + 1 : Nat) : Int)) = PyData.int (lo + 1 + (k : Int))
    congr 1
    omega
theorem atI_at {α : Type} {xs : List α} {i : Int} {j : Nat} {v : α} (e : i = (j : Int)) (h : xs[j]? = some v) : L2.atI xs i = some v := by
  rw [e]
  exact L2.atI_nat h
theorem upFrom_map (lo : Int) (n : Nat) : upFrom lo n = (List.range n).map fun (k : Nat) => PyData.int (lo + (k : Int)) := rfl
end DL

set_option Elab.async false
set_option linter.all false
set_option maxRecDepth 100000
set_option maxHeartbeats 1000000
namespace K
open PySem PySem.Spec PyProof.Rows L2 DL
def topS (i : Nat) : Stmt := PySem.Challenge.pw_everypurse_k10_moves_of_walkers.main.body.getD i (.Pass ⟨0, 0, 0, 0⟩)
/-- how a def stands behind the top -/
abbrev Df (K : PySem.W.Frag) (mg : Str → Option Value) (x : Str) (st : Stmt) (ps : List Str) : Prop := ∃ (f : Addr) (fd : FuncData), Fun K x x st f fd ∧ mg x = some (.ref f) ∧ L2.Binds K fd ps []
structure Tx (K : PySem.W.Frag) (mg : Str → Option Value) (cls : Nat → Value) : Prop where
  n_bool : mg "bool" = none
  n_int : mg "int" = none
  n_isinstance : mg "isinstance" = none
  n_len : mg "len" = none
  n_list : mg "list" = none
  n_range : mg "range" = none
  n_str : mg "str" = none
  n_sum : mg "sum" = none
  n_tuple : mg "tuple" = none
  c_MOST_CHANGE : ∃ t, mg "MOST_CHANGE" = some (.int 3 t)
  c_MOST_ROOMS : ∃ t, mg "MOST_ROOMS" = some (.int 8 t)
  c_MOST_STEPS : ∃ t, mg "MOST_STEPS" = some (.int 16 t)
  c_MOST_TESTS : ∃ t, mg "MOST_TESTS" = some (.int 6 t)
  e_0 : ExcN K mg cls 0 "BadProgram"
  x_0 : ∀ m, m < 3 → PySem.W.exmOne K (cls m) (cls 0) = some (decide (m = 0))
  g_0 : mg "BadProgram" = some (cls 0)
  e_1 : ExcN K mg cls 1 "BadStanding"
  x_1 : ∀ m, m < 3 → PySem.W.exmOne K (cls m) (cls 1) = some (decide (m = 1))
  g_1 : mg "BadStanding" = some (cls 1)
  e_2 : ExcN K mg cls 2 "BadArgument"
  x_2 : ∀ m, m < 3 → PySem.W.exmOne K (cls m) (cls 2) = some (decide (m = 2))
  g_2 : mg "BadArgument" = some (cls 2)
section
variable {P : Program} {w : World} {K : PySem.W.Frag} {mg : Str → Option Value} {base : Heap} {cls : Nat → Value}
abbrev s_law_mixed : Stmt := topS 29
abbrev N_law_mixed : List Str := ["number", "k", "step"]
theorem sc_law_mixed : FnScope N_law_mixed ["number", "k"] (defScope s_law_mixed) := ⟨rfl, rfl, rfl, by decide +kernel, rfl, by decide +kernel, by decide +kernel⟩
def b_law_mixed : Sm := (seqS (setS 2 (opD modD (opD addD (opD addD (opD mulD (varD 0) (constD (.int 48271))) (opD mulD (varD 1) (constD (.int 69621)))) (constD (.int 12345))) (constD (.int 2147483647))))
  (retS (opD modD (opD addD (opD mulD (varD 2) (opD addD (opD fdivD (varD 2) (constD (.int 65536))) (constD (.int 3)))) (varD 1)) (constD (.int 2147483647)))))
def m_law_mixed : Fn := fnD 1 false b_law_mixed
theorem ok_law_mixed (T : Tx K mg cls) (D : Df K mg "_law_mixed" s_law_mixed ["number", "k"])  : Kept P w K mg base cls "_law_mixed" ["number", "k"] false m_law_mixed 1 :=
  fn_ok (body := b_law_mixed) D sc_law_mixed fun f cdv A outer s H E hr => by
    have tk := takes_of (X := cxOf (L2.CX P w) P w K mg base N_law_mixed "_law_mixed" (defScope s_law_mixed) f cdv A outer s H E) (E := E) rfl rfl rfl rfl
    have hp := passes_of (X := cxOf (L2.CX P w) P w K mg base N_law_mixed "_law_mixed" (defScope s_law_mixed) f cdv A outer s H E) rfl
    exact (pssd_cons (psd_set 2 sc_law_mixed.nd (pd_mod (pd_add (pd_add (pd_mul (pd_var 0) pd_int) (pd_mul (pd_var 1) pd_int)) pd_int) pd_int))
    (pssd_one (psd_ret (pd_mod (pd_add (pd_mul (pd_var 2) (pd_add (pd_fdiv (pd_var 2) pd_int) pd_int)) (pd_var 1)) pd_int))))
abbrev s_law_draw : Stmt := topS 31
abbrev N_law_draw : List Str := ["draws", "many", "at", "first"]
theorem sc_law_draw : FnScope N_law_draw ["draws", "many"] (defScope s_law_draw) := ⟨rfl, rfl, rfl, by decide +kernel, rfl, by decide +kernel, by decide +kernel⟩
def b_law_draw : Sm := (seqS (setS 2 (dr1 0))
  (seqS (drSetS 0 (opD addD (varD 2) (constD (.int 1))))
  (seqS (ifS (boolD (opD (cmpD fun i j => decide (i < j)) (varD 2) (unD lenD (dr0 0))))
  (retS (opD modD (opD ixD (dr0 0) (varD 2)) (varD 1)))
  nextS)
  (seqS (setS 3 (opD addD (constD (.int 1)) (varD 2)))
  (seqS (ifS (boolD (opD (cmpD fun i j => decide (j < i)) (unD lenD (dr0 0)) (constD (.int 0))))
  (setS 3 (opD addD (varD 3) (opD mulD (constD (.int 1009)) (opD ixD (dr0 0) (constD (.int 0))))))
  nextS)
  (retS (opD modD (opD fdivD (callD 2 m_law_mixed (consD (callD 2 m_law_mixed (consD (varD 3) (consD (varD 2) nilD))) (consD (constD (.int 5)) nilD))) (constD (.int 7))) (varD 1))))))))
def m_law_draw : Fn := fnD 2 true b_law_draw
theorem ok_law_draw (T : Tx K mg cls) (D : Df K mg "_law_draw" s_law_draw ["draws", "many"]) (k_law_mixed : Kept P w K mg base cls "_law_mixed" ["number", "k"] false m_law_mixed 1) : Kept P w K mg base cls "_law_draw" ["draws", "many"] true m_law_draw 2 :=
  fn_ok (body := b_law_draw) D sc_law_draw fun f cdv A outer s H E hr => by
    have tk := takes_of (X := cxOf (L2.CX P w) P w K mg base N_law_draw "_law_draw" (defScope s_law_draw) f cdv A outer s H E) (E := E) rfl rfl rfl rfl
    have hp := passes_of (X := cxOf (L2.CX P w) P w K mg base N_law_draw "_law_draw" (defScope s_law_draw) f cdv A outer s H E) rfl
    exact (pssd_cons (psd_set 2 sc_law_draw.nd (pd_dr1 0))
    (pssd_cons (psd_drSet 0 (pd_add (pd_var 2) pd_int))
    (pssd_cons (psd_if (ptd_cmp c_lt (pd_var 2) (pd_len T.n_len (pd_dr0 0)))
    (pssd_one (psd_ret (pd_mod (pd_ix (pd_dr0 0) (pd_var 2)) (pd_var 1))))
    pssd_nil)
    (pssd_cons (psd_set 3 sc_law_draw.nd (pd_add pd_int (pd_var 2)))
    (pssd_cons (psd_if (ptd_cmp c_gt (pd_len T.n_len (pd_dr0 0)) pd_int)
    (pssd_one (psd_set 3 sc_law_draw.nd (pd_add (pd_var 3) (pd_mul pd_int (pd_ix (pd_dr0 0) pd_int)))))
    pssd_nil)
    (pssd_one (psd_ret (pd_mod (pd_fdiv (pd_call k_law_mixed hr (by decide) tk (pad_cons (pd_call k_law_mixed hr (by decide) tk (pad_cons (pd_var 3) (pad_cons (pd_var 2) pad_nil))) (pad_cons pd_int pad_nil))) pd_int) (pd_var 1)))))))))
abbrev s_law_walker : Stmt := topS 34
abbrev N_law_walker : List Str := ["draws", "most", "rooms", "steps", "k"]
theorem sc_law_walker : FnScope N_law_walker ["draws", "most"] (defScope s_law_walker) := ⟨rfl, rfl, rfl, by decide +kernel, rfl, by decide +kernel, by decide +kernel⟩
def b_law_walker : Sm := (seqS (setS 2 (opD addD (constD (.int 1)) (callG 2 0 m_law_draw (consD (varD 1) nilD))))
  (seqS (setS 3 (unD tupleD (shareO (lcO (rangeD (callG 2 0 m_law_draw (consD (opD addD (constD (.int 2)) (opD mulD (constD (.int 2)) (varD 2))) nilD))) [4] (nameT 4) yesT (tupD (consD (callG 2 0 m_law_draw (consD (varD 2) nilD)) (consD (callG 2 0 m_law_draw (consD (varD 2) nilD)) (consD (opD subD (callG 2 0 m_law_draw (consD (constD (.int 7)) nilD)) (constD (.int 3))) nilD))))))))
  (retS (tupD (consD (varD 2) (consD (varD 3) (consD (unD tupleD (shareO (lcO (rangeD (callG 2 0 m_law_draw (consD (constD (.int 3)) nilD))) [4] (nameT 4) yesT (tupD (consD (callG 2 0 m_law_draw (consD (varD 2) nilD)) (consD (callG 2 0 m_law_draw (consD (varD 2) nilD)) nilD)))))) nilD)))))))
def m_law_walker : Fn := fnD 3 true b_law_walker
theorem ok_law_walker (T : Tx K mg cls) (D : Df K mg "_law_walker" s_law_walker ["draws", "most"]) (k_law_draw : Kept P w K mg base cls "_law_draw" ["draws", "many"] true m_law_draw 2) : Kept P w K mg base cls "_law_walker" ["draws", "most"] true m_law_walker 3 :=
  fn_ok (body := b_law_walker) D sc_law_walker fun f cdv A outer s H E hr => by
    have tk := takes_of (X := cxOf (L2.CX P w) P w K mg base N_law_walker "_law_walker" (defScope s_law_walker) f cdv A outer s H E) (E := E) rfl rfl rfl rfl
    have hp := passes_of (X := cxOf (L2.CX P w) P w K mg base N_law_walker "_law_walker" (defScope s_law_walker) f cdv A outer s H E) rfl
    exact (pssd_cons (psd_set 2 sc_law_walker.nd (pd_add pd_int (pd_callG 0 k_law_draw hr (by decide) tk (pad_cons (pd_var 1) pad_nil))))
    (pssd_cons (psd_set 3 sc_law_walker.nd (pd_tuple T.n_tuple (pd_share (po_lc (own := [("k", 4)]) rfl sc_law_walker.nd (pid_range T.n_range (pd_callG 0 k_law_draw hr (by decide) tk (pad_cons (pd_add pd_int (pd_mul pd_int (pd_var 2))) pad_nil))) (blkOk_by (own := [("k", 4)]) (N := N_law_walker) (sc := defScope s_law_walker) (by decide +kernel)) (fun _ _ _ _ _ => (pgd_name 4 sc_law_walker.nd)) (fun _ _ _ _ _ => ptsd_nil) (fun _ _ _ _ _ => (pd_tup (pad_cons (pd_callG 0 k_law_draw hr (by decide) takes0 (pad_cons (pd_var 2) pad_nil)) (pad_cons (pd_callG 0 k_law_draw hr (by decide) takes0 (pad_cons (pd_var 2) pad_nil)) (pad_cons (pd_sub (pd_callG 0 k_law_draw hr (by decide) takes0 (pad_cons pd_int pad_nil)) pd_int) pad_nil)))))))))
    (pssd_one (psd_ret (pd_tup (pad_cons (pd_var 2) (pad_cons (pd_var 3) (pad_cons (pd_tuple T.n_tuple (pd_share (po_lc (own := [("k", 4)]) rfl sc_law_walker.nd (pid_range T.n_range (pd_callG 0 k_law_draw hr (by decide) tk (pad_cons pd_int pad_nil))) (blkOk_by (own := [("k", 4)]) (N := N_law_walker) (sc := defScope s_law_walker) (by decide +kernel)) (fun _ _ _ _ _ => (pgd_name 4 sc_law_walker.nd)) (fun _ _ _ _ _ => ptsd_nil) (fun _ _ _ _ _ => (pd_tup (pad_cons (pd_callG 0 k_law_draw hr (by decide) takes0 (pad_cons (pd_var 2) pad_nil)) (pad_cons (pd_callG 0 k_law_draw hr (by decide) takes0 (pad_cons (pd_var 2) pad_nil)) pad_nil))))))) pad_nil))))))))
abbrev s_is_natural : Stmt := topS 6
abbrev N_is_natural : List Str := ["value"]
theorem sc_is_natural : FnScope N_is_natural ["value"] (defScope s_is_natural) := ⟨rfl, rfl, rfl, by decide +kernel, rfl, by decide +kernel, by decide +kernel⟩
def b_is_natural : Sm := (retS (andV (unD (isiD "int") (varD 0)) (andV (notV (unD (isiD "bool") (varD 0))) (opD (cmpD fun i j => decide (j ≤ i)) (varD 0) (constD (.int 0))))))
def m_is_natural : Fn := fnD 0 false b_is_natural
theorem ok_is_natural (T : Tx K mg cls) (D : Df K mg "is_natural" s_is_natural ["value"])  : Kept P w K mg base cls "is_natural" ["value"] false m_is_natural 1 :=
  fn_ok (body := b_is_natural) D sc_is_natural fun f cdv A outer s H E hr => by
    have tk := takes_of (X := cxOf (L2.CX P w) P w K mg base N_is_natural "is_natural" (defScope s_is_natural) f cdv A outer s H E) (E := E) rfl rfl rfl rfl
    have hp := passes_of (X := cxOf (L2.CX P w) P w K mg base N_is_natural "is_natural" (defScope s_is_natural) f cdv A outer s H E) rfl
    exact (pssd_one (psd_ret (pd_and (pd_isi kit_int T.n_isinstance T.n_int PyProof.Rows.boot_int (pd_var 0)) (pd_and (pd_not (pd_isi kit_bool T.n_isinstance T.n_bool PyProof.Rows.boot_bool (pd_var 0))) (pd_one (pd_cmp c_ge (pd_var 0) pd_int))))))
abbrev s_is_room : Stmt := topS 12
abbrev N_is_room : List Str := ["value", "rooms"]
theorem sc_is_room : FnScope N_is_room ["value", "rooms"] (defScope s_is_room) := ⟨rfl, rfl, rfl, by decide +kernel, rfl, by decide +kernel, by decide +kernel⟩
def b_is_room : Sm := (retS (andV (callD 1 m_is_natural (consD (varD 0) nilD)) (opD (cmpD fun i j => decide (i < j)) (varD 0) (varD 1))))
def m_is_room : Fn := fnD 0 false b_is_room
theorem ok_is_room (T : Tx K mg cls) (D : Df K mg "is_room" s_is_room ["value", "rooms"]) (k_is_natural : Kept P w K mg base cls "is_natural" ["value"] false m_is_natural 1) : Kept P w K mg base cls "is_room" ["value", "rooms"] false m_is_room 2 :=
  fn_ok (body := b_is_room) D sc_is_room fun f cdv A outer s H E hr => by
    have tk := takes_of (X := cxOf (L2.CX P w) P w K mg base N_is_room "is_room" (defScope s_is_room) f cdv A outer s H E) (E := E) rfl rfl rfl rfl
    have hp := passes_of (X := cxOf (L2.CX P w) P w K mg base N_is_room "is_room" (defScope s_is_room) f cdv A outer s H E) rfl
    exact (pssd_one (psd_ret (pd_and (pd_call k_is_natural hr (by decide) tk (pad_cons (pd_var 0) pad_nil)) (pd_one (pd_cmp c_lt (pd_var 0) (pd_var 1))))))
abbrev s_is_walker_step : Stmt := topS 13
abbrev N_is_walker_step : List Str := ["value", "rooms", "change"]
theorem sc_is_walker_step : FnScope N_is_walker_step ["value", "rooms"] (defScope s_is_walker_step) := ⟨rfl, rfl, rfl, by decide +kernel, rfl, by decide +kernel, by decide +kernel⟩
def b_is_walker_step : Sm := (seqS (ifS (orT (notT (truthD (unD (isiD "tuple") (varD 0)))) (boolD (opD neD (unD lenD (varD 0)) (constD (.int 3)))))
  (retS (constD (.bool false)))
  nextS)
  (seqS (ifS (orT (notT (truthD (callD 2 m_is_room (consD (opD ixD (varD 0) (constD (.int 0))) (consD (varD 1) nilD))))) (notT (truthD (callD 2 m_is_room (consD (opD ixD (varD 0) (constD (.int 1))) (consD (varD 1) nilD))))))
  (retS (constD (.bool false)))
  nextS)
  (seqS (setS 2 (opD ixD (varD 0) (constD (.int 2))))
  (retS (andV (unD (isiD "int") (varD 2)) (andV (notV (unD (isiD "bool") (varD 2))) (chainD (cmpD fun i j => decide (i ≤ j)) (cmpD fun i j => decide (i ≤ j)) (unD negD (constD (.int 3))) (varD 2) (constD (.int 3)))))))))
def m_is_walker_step : Fn := fnD 1 false b_is_walker_step
theorem ok_is_walker_step (T : Tx K mg cls) (D : Df K mg "is_walker_step" s_is_walker_step ["value", "rooms"]) (k_is_room : Kept P w K mg base cls "is_room" ["value", "rooms"] false m_is_room 2) : Kept P w K mg base cls "is_walker_step" ["value", "rooms"] false m_is_walker_step 3 :=
  fn_ok (body := b_is_walker_step) D sc_is_walker_step fun f cdv A outer s H E hr => by
    have tk := takes_of (X := cxOf (L2.CX P w) P w K mg base N_is_walker_step "is_walker_step" (defScope s_is_walker_step) f cdv A outer s H E) (E := E) rfl rfl rfl rfl
    have hp := passes_of (X := cxOf (L2.CX P w) P w K mg base N_is_walker_step "is_walker_step" (defScope s_is_walker_step) f cdv A outer s H E) rfl
    exact (pssd_cons (psd_if (PW.pt (pwd_or (ptd_not (ptd_val (pd_isi kit_tuple T.n_isinstance T.n_tuple PyProof.Rows.boot_tuple (pd_var 0)))) (pwd_or1 (ptd_cmp (c_ne hr) (pd_len T.n_len (pd_var 0)) pd_int))))
    (pssd_one (psd_ret pd_bl))
    pssd_nil)
    (pssd_cons (psd_if (PW.pt (pwd_or (ptd_not (ptd_val (pd_call k_is_room hr (by decide) tk (pad_cons (pd_ix (pd_var 0) pd_int) (pad_cons (pd_var 1) pad_nil))))) (pwd_or1 (ptd_not (ptd_val (pd_call k_is_room hr (by decide) tk (pad_cons (pd_ix (pd_var 0) pd_int) (pad_cons (pd_var 1) pad_nil))))))))
    (pssd_one (psd_ret pd_bl))
    pssd_nil)
    (pssd_cons (psd_set 2 sc_is_walker_step.nd (pd_ix (pd_var 0) pd_int))
    (pssd_one (psd_ret (pd_and (pd_isi kit_int T.n_isinstance T.n_int PyProof.Rows.boot_int (pd_var 2)) (pd_and (pd_not (pd_isi kit_bool T.n_isinstance T.n_bool PyProof.Rows.boot_bool (pd_var 2))) (pd_one (pd_chain c_le c_le (pd_neg (pd_globI T.c_MOST_CHANGE)) (pd_var 2) (pd_globI T.c_MOST_CHANGE))))))))))
abbrev s_is_walker_test : Stmt := topS 14
abbrev N_is_walker_test : List Str := ["value", "rooms"]
theorem sc_is_walker_test : FnScope N_is_walker_test ["value", "rooms"] (defScope s_is_walker_test) := ⟨rfl, rfl, rfl, by decide +kernel, rfl, by decide +kernel, by decide +kernel⟩
def b_is_walker_test : Sm := (retS (andV (unD (isiD "tuple") (varD 0)) (andV (opD eqD (unD lenD (varD 0)) (constD (.int 2))) (andV (callD 2 m_is_room (consD (opD ixD (varD 0) (constD (.int 0))) (consD (varD 1) nilD))) (callD 2 m_is_room (consD (opD ixD (varD 0) (constD (.int 1))) (consD (varD 1) nilD)))))))
def m_is_walker_test : Fn := fnD 0 false b_is_walker_test
theorem ok_is_walker_test (T : Tx K mg cls) (D : Df K mg "is_walker_test" s_is_walker_test ["value", "rooms"]) (k_is_room : Kept P w K mg base cls "is_room" ["value", "rooms"] false m_is_room 2) : Kept P w K mg base cls "is_walker_test" ["value", "rooms"] false m_is_walker_test 3 :=
  fn_ok (body := b_is_walker_test) D sc_is_walker_test fun f cdv A outer s H E hr => by
    have tk := takes_of (X := cxOf (L2.CX P w) P w K mg base N_is_walker_test "is_walker_test" (defScope s_is_walker_test) f cdv A outer s H E) (E := E) rfl rfl rfl rfl
    have hp := passes_of (X := cxOf (L2.CX P w) P w K mg base N_is_walker_test "is_walker_test" (defScope s_is_walker_test) f cdv A outer s H E) rfl
    exact (pssd_one (psd_ret (pd_and (pd_isi kit_tuple T.n_isinstance T.n_tuple PyProof.Rows.boot_tuple (pd_var 0)) (pd_and (pd_cmp (c_eq hr) (pd_len T.n_len (pd_var 0)) pd_int) (pd_and (pd_call k_is_room hr (by decide) tk (pad_cons (pd_ix (pd_var 0) pd_int) (pad_cons (pd_var 1) pad_nil))) (pd_one (pd_call k_is_room hr (by decide) tk (pad_cons (pd_ix (pd_var 0) pd_int) (pad_cons (pd_var 1) pad_nil)))))))))
abbrev s_is_walker : Stmt := topS 15
abbrev N_is_walker : List Str := ["value", "one"]
theorem sc_is_walker : FnScope N_is_walker ["value"] (defScope s_is_walker) := ⟨rfl, rfl, rfl, by decide +kernel, rfl, by decide +kernel, by decide +kernel⟩
def b_is_walker : Sm := (seqS (ifS (orT (notT (truthD (unD (isiD "tuple") (varD 0)))) (orT (boolD (opD neD (unD lenD (varD 0)) (constD (.int 3)))) (orT (notT (truthD (callD 1 m_is_natural (consD (opD ixD (varD 0) (constD (.int 0))) nilD)))) (notT (boolD (chainD (cmpD fun i j => decide (i ≤ j)) (cmpD fun i j => decide (i ≤ j)) (constD (.int 1)) (opD ixD (varD 0) (constD (.int 0))) (constD (.int 8))))))))
  (retS (constD (.bool false)))
  nextS)
  (seqS (ifS (orT (notT (truthD (unD (isiD "tuple") (opD ixD (varD 0) (constD (.int 1)))))) (boolD (opD (cmpD fun i j => decide (j < i)) (unD lenD (opD ixD (varD 0) (constD (.int 1)))) (constD (.int 16)))))
  (retS (constD (.bool false)))
  nextS)
  (seqS (ifS (orT (notT (truthD (unD (isiD "tuple") (opD ixD (varD 0) (constD (.int 2)))))) (boolD (opD (cmpD fun i j => decide (j < i)) (unD lenD (opD ixD (varD 0) (constD (.int 2)))) (constD (.int 6)))))
  (retS (constD (.bool false)))
  nextS)
  (seqS (ifS (truthD (shareO (lcO (itemsD (opD ixD (varD 0) (constD (.int 1)))) [1] (nameT 1) (notT (truthD (callD 2 m_is_walker_step (consD (varD 1) (consD (opD ixD (varD 0) (constD (.int 0))) nilD))))) (varD 1))))
  (retS (constD (.bool false)))
  nextS)
  (retS (opD eqD (shareO (lcO (itemsD (opD ixD (varD 0) (constD (.int 2)))) [1] (nameT 1) (notT (truthD (callD 2 m_is_walker_test (consD (varD 1) (consD (opD ixD (varD 0) (constD (.int 0))) nilD))))) (varD 1))) (shareO (lstO nilD))))))))
def m_is_walker : Fn := fnD 1 false b_is_walker
theorem ok_is_walker (T : Tx K mg cls) (D : Df K mg "is_walker" s_is_walker ["value"]) (k_is_natural : Kept P w K mg base cls "is_natural" ["value"] false m_is_natural 1) (k_is_walker_step : Kept P w K mg base cls "is_walker_step" ["value", "rooms"] false m_is_walker_step 3) (k_is_walker_test : Kept P w K mg base cls "is_walker_test" ["value", "rooms"] false m_is_walker_test 3) : Kept P w K mg base cls "is_walker" ["value"] false m_is_walker 4 :=
  fn_ok (body := b_is_walker) D sc_is_walker fun f cdv A outer s H E hr => by
    have tk := takes_of (X := cxOf (L2.CX P w) P w K mg base N_is_walker "is_walker" (defScope s_is_walker) f cdv A outer s H E) (E := E) rfl rfl rfl rfl
    have hp := passes_of (X := cxOf (L2.CX P w) P w K mg base N_is_walker "is_walker" (defScope s_is_walker) f cdv A outer s H E) rfl
    exact (pssd_cons (psd_if (PW.pt (pwd_or (ptd_not (ptd_val (pd_isi kit_tuple T.n_isinstance T.n_tuple PyProof.Rows.boot_tuple (pd_var 0)))) (pwd_or (ptd_cmp (c_ne hr) (pd_len T.n_len (pd_var 0)) pd_int) (pwd_or (ptd_not (ptd_val (pd_call k_is_natural hr (by decide) tk (pad_cons (pd_ix (pd_var 0) pd_int) pad_nil)))) (pwd_or1 (ptd_not (ptd_chain c_le c_le pd_int (pd_ix (pd_var 0) pd_int) (pd_globI T.c_MOST_ROOMS))))))))
    (pssd_one (psd_ret pd_bl))
    pssd_nil)
    (pssd_cons (psd_if (PW.pt (pwd_or (ptd_not (ptd_val (pd_isi kit_tuple T.n_isinstance T.n_tuple PyProof.Rows.boot_tuple (pd_ix (pd_var 0) pd_int)))) (pwd_or1 (ptd_cmp c_gt (pd_len T.n_len (pd_ix (pd_var 0) pd_int)) (pd_globI T.c_MOST_STEPS)))))
    (pssd_one (psd_ret pd_bl))
    pssd_nil)
    (pssd_cons (psd_if (PW.pt (pwd_or (ptd_not (ptd_val (pd_isi kit_tuple T.n_isinstance T.n_tuple PyProof.Rows.boot_tuple (pd_ix (pd_var 0) pd_int)))) (pwd_or1 (ptd_cmp c_gt (pd_len T.n_len (pd_ix (pd_var 0) pd_int)) (pd_globI T.c_MOST_TESTS)))))
    (pssd_one (psd_ret pd_bl))
    pssd_nil)
    (pssd_cons (psd_if (ptd_val (pd_share (po_lc (own := [("one", 1)]) rfl sc_is_walker.nd (pid_seq (pd_ix (pd_var 0) pd_int)) (blkOk_by (own := [("one", 1)]) (N := N_is_walker) (sc := defScope s_is_walker) (by decide +kernel)) (fun _ _ _ _ _ => (pgd_name 1 sc_is_walker.nd)) (fun _ _ _ _ _ => (ptsd_one (ptd_not (ptd_val (pd_call k_is_walker_step hr (by decide) takes0 (pad_cons (pd_var 1) (pad_cons (pd_ix (pd_var 0) pd_int) pad_nil))))))) (fun _ _ _ _ _ => (pd_var 1)))))
    (pssd_one (psd_ret pd_bl))
    pssd_nil)
    (pssd_one (psd_ret (pd_cmp (c_eq hr) (pd_share (po_lc (own := [("one", 1)]) rfl sc_is_walker.nd (pid_seq (pd_ix (pd_var 0) pd_int)) (blkOk_by (own := [("one", 1)]) (N := N_is_walker) (sc := defScope s_is_walker) (by decide +kernel)) (fun _ _ _ _ _ => (pgd_name 1 sc_is_walker.nd)) (fun _ _ _ _ _ => (ptsd_one (ptd_not (ptd_val (pd_call k_is_walker_test hr (by decide) takes0 (pad_cons (pd_var 1) (pad_cons (pd_ix (pd_var 0) pd_int) pad_nil))))))) (fun _ _ _ _ _ => (pd_var 1)))) (pd_share (po_lst pad_nil)))))))))
abbrev s_check_walker : Stmt := topS 16
abbrev N_check_walker : List Str := ["value"]
theorem sc_check_walker : FnScope N_check_walker ["value"] (defScope s_check_walker) := ⟨rfl, rfl, rfl, by decide +kernel, rfl, by decide +kernel, by decide +kernel⟩
def b_check_walker : Sm := (ifS (notT (truthD (callD 1 m_is_walker (consD (varD 0) nilD))))
  (raiseS 0)
  nextS)
def m_check_walker : Fn := fnD 0 false b_check_walker
theorem ok_check_walker (T : Tx K mg cls) (D : Df K mg "check_walker" s_check_walker ["value"]) (k_is_walker : Kept P w K mg base cls "is_walker" ["value"] false m_is_walker 4) : Kept P w K mg base cls "check_walker" ["value"] false m_check_walker 5 :=
  fn_ok (body := b_check_walker) D sc_check_walker fun f cdv A outer s H E hr => by
    have tk := takes_of (X := cxOf (L2.CX P w) P w K mg base N_check_walker "check_walker" (defScope s_check_walker) f cdv A outer s H E) (E := E) rfl rfl rfl rfl
    have hp := passes_of (X := cxOf (L2.CX P w) P w K mg base N_check_walker "check_walker" (defScope s_check_walker) f cdv A outer s H E) rfl
    exact (pssd_one (psd_if (ptd_not (ptd_val (pd_call k_is_walker hr (by decide) tk (pad_cons (pd_var 0) pad_nil))))
    (pssd_one (psd_raise T.e_0 rfl tk))
    pssd_nil))
abbrev s_turn_walker : Stmt := topS 26
abbrev N_turn_walker : List Str := ["walker", "steps", "source", "target", "change"]
theorem sc_turn_walker : FnScope N_turn_walker ["walker"] (defScope s_turn_walker) := ⟨rfl, rfl, rfl, by decide +kernel, rfl, by decide +kernel, by decide +kernel⟩
def b_turn_walker : Sm := (seqS (setS 1 (unD tupleD (shareO (lcO (itemsD (opD ixD (varD 0) (constD (.int 1)))) [2, 3, 4] (tupT (consT (nameT 2) (consT (nameT 3) (consT (nameT 4) nilT)))) yesT (tupD (consD (varD 3) (consD (varD 2) (consD (unD negD (varD 4)) nilD))))))))
  (retS (tupD (consD (opD ixD (varD 0) (constD (.int 0))) (consD (varD 1) (consD (unD tupleD (shareO (lcO (itemsD (opD ixD (varD 0) (constD (.int 2)))) [2, 3] (tupT (consT (nameT 2) (consT (nameT 3) nilT))) yesT (tupD (consD (varD 3) (consD (varD 2) nilD)))))) nilD))))))
def m_turn_walker : Fn := fnD 4 false b_turn_walker
theorem ok_turn_walker (T : Tx K mg cls) (D : Df K mg "turn_walker" s_turn_walker ["walker"])  : Kept P w K mg base cls "turn_walker" ["walker"] false m_turn_walker 1 :=
  fn_ok (body := b_turn_walker) D sc_turn_walker fun f cdv A outer s H E hr => by
    have tk := takes_of (X := cxOf (L2.CX P w) P w K mg base N_turn_walker "turn_walker" (defScope s_turn_walker) f cdv A outer s H E) (E := E) rfl rfl rfl rfl
    have hp := passes_of (X := cxOf (L2.CX P w) P w K mg base N_turn_walker "turn_walker" (defScope s_turn_walker) f cdv A outer s H E) rfl
    exact (pssd_cons (psd_set 1 sc_turn_walker.nd (pd_tuple T.n_tuple (pd_share (po_lc (own := [("source", 2), ("target", 3), ("change", 4)]) rfl sc_turn_walker.nd (pid_seq (pd_ix (pd_var 0) pd_int)) (blkOk_by (own := [("source", 2), ("target", 3), ("change", 4)]) (N := N_turn_walker) (sc := defScope s_turn_walker) (by decide +kernel)) (fun _ _ _ _ _ => (pgd_tup rfl (pgsd_cons (pgd_name 2 sc_turn_walker.nd) (pgsd_cons (pgd_name 3 sc_turn_walker.nd) (pgsd_cons (pgd_name 4 sc_turn_walker.nd) pgsd_nil))) len3)) (fun _ _ _ _ _ => ptsd_nil) (fun _ _ _ _ _ => (pd_tup (pad_cons (pd_var 3) (pad_cons (pd_var 2) (pad_cons (pd_neg (pd_var 4)) pad_nil)))))))))
    (pssd_one (psd_ret (pd_tup (pad_cons (pd_ix (pd_var 0) pd_int) (pad_cons (pd_var 1) (pad_cons (pd_tuple T.n_tuple (pd_share (po_lc (own := [("source", 2), ("target", 3)]) rfl sc_turn_walker.nd (pid_seq (pd_ix (pd_var 0) pd_int)) (blkOk_by (own := [("source", 2), ("target", 3)]) (N := N_turn_walker) (sc := defScope s_turn_walker) (by decide +kernel)) (fun _ _ _ _ _ => (pgd_tup rfl (pgsd_cons (pgd_name 2 sc_turn_walker.nd) (pgsd_cons (pgd_name 3 sc_turn_walker.nd) pgsd_nil)) len2)) (fun _ _ _ _ _ => ptsd_nil) (fun _ _ _ _ _ => (pd_tup (pad_cons (pd_var 3) (pad_cons (pd_var 2) pad_nil))))))) pad_nil)))))))
abbrev s_turned_walker : Stmt := topS 27
abbrev N_turned_walker : List Str := ["walker"]
theorem sc_turned_walker : FnScope N_turned_walker ["walker"] (defScope s_turned_walker) := ⟨rfl, rfl, rfl, by decide +kernel, rfl, by decide +kernel, by decide +kernel⟩
def b_turned_walker : Sm := (seqS (dropS (callD 1 m_check_walker (consD (varD 0) nilD)))
  (retS (callD 1 m_turn_walker (consD (varD 0) nilD))))
def m_turned_walker : Fn := fnD 0 false b_turned_walker
theorem ok_turned_walker (T : Tx K mg cls) (D : Df K mg "turned_walker" s_turned_walker ["walker"]) (k_check_walker : Kept P w K mg base cls "check_walker" ["value"] false m_check_walker 5) (k_turn_walker : Kept P w K mg base cls "turn_walker" ["walker"] false m_turn_walker 1) : Kept P w K mg base cls "turned_walker" ["walker"] false m_turned_walker 6 :=
  fn_ok (body := b_turned_walker) D sc_turned_walker fun f cdv A outer s H E hr => by
    have tk := takes_of (X := cxOf (L2.CX P w) P w K mg base N_turned_walker "turned_walker" (defScope s_turned_walker) f cdv A outer s H E) (E := E) rfl rfl rfl rfl
    have hp := passes_of (X := cxOf (L2.CX P w) P w K mg base N_turned_walker "turned_walker" (defScope s_turned_walker) f cdv A outer s H E) rfl
    exact (pssd_cons (psd_expr (pd_call k_check_walker hr (by decide) tk (pad_cons (pd_var 0) pad_nil)))
    (pssd_one (psd_ret (pd_call k_turn_walker hr (by decide) tk (pad_cons (pd_var 0) pad_nil)))))
abbrev s_is_spot : Stmt := topS 17
abbrev N_is_spot : List Str := ["walker", "value"]
theorem sc_is_spot : FnScope N_is_spot ["walker", "value"] (defScope s_is_spot) := ⟨rfl, rfl, rfl, by decide +kernel, rfl, by decide +kernel, by decide +kernel⟩
def b_is_spot : Sm := (retS (andV (unD (isiD "tuple") (varD 1)) (andV (opD eqD (unD lenD (varD 1)) (constD (.int 2))) (andV (callD 2 m_is_room (consD (opD ixD (varD 1) (constD (.int 0))) (consD (opD ixD (varD 0) (constD (.int 0))) nilD))) (callD 1 m_is_natural (consD (opD ixD (varD 1) (constD (.int 1))) nilD))))))
def m_is_spot : Fn := fnD 0 false b_is_spot
theorem ok_is_spot (T : Tx K mg cls) (D : Df K mg "is_spot" s_is_spot ["walker", "value"]) (k_is_room : Kept P w K mg base cls "is_room" ["value", "rooms"] false m_is_room 2) (k_is_natural : Kept P w K mg base cls "is_natural" ["value"] false m_is_natural 1) : Kept P w K mg base cls "is_spot" ["walker", "value"] false m_is_spot 3 :=
  fn_ok (body := b_is_spot) D sc_is_spot fun f cdv A outer s H E hr => by
    have tk := takes_of (X := cxOf (L2.CX P w) P w K mg base N_is_spot "is_spot" (defScope s_is_spot) f cdv A outer s H E) (E := E) rfl rfl rfl rfl
    have hp := passes_of (X := cxOf (L2.CX P w) P w K mg base N_is_spot "is_spot" (defScope s_is_spot) f cdv A outer s H E) rfl
    exact (pssd_one (psd_ret (pd_and (pd_isi kit_tuple T.n_isinstance T.n_tuple PyProof.Rows.boot_tuple (pd_var 1)) (pd_and (pd_cmp (c_eq hr) (pd_len T.n_len (pd_var 1)) pd_int) (pd_and (pd_call k_is_room hr (by decide) tk (pad_cons (pd_ix (pd_var 1) pd_int) (pad_cons (pd_ix (pd_var 0) pd_int) pad_nil))) (pd_one (pd_call k_is_natural hr (by decide) tk (pad_cons (pd_ix (pd_var 1) pd_int) pad_nil))))))))
abbrev s_check_spot : Stmt := topS 18
abbrev N_check_spot : List Str := ["walker", "value"]
theorem sc_check_spot : FnScope N_check_spot ["walker", "value"] (defScope s_check_spot) := ⟨rfl, rfl, rfl, by decide +kernel, rfl, by decide +kernel, by decide +kernel⟩
def b_check_spot : Sm := (ifS (notT (truthD (callD 2 m_is_spot (consD (varD 0) (consD (varD 1) nilD)))))
  (raiseS 1)
  nextS)
def m_check_spot : Fn := fnD 0 false b_check_spot
theorem ok_check_spot (T : Tx K mg cls) (D : Df K mg "check_spot" s_check_spot ["walker", "value"]) (k_is_spot : Kept P w K mg base cls "is_spot" ["walker", "value"] false m_is_spot 3) : Kept P w K mg base cls "check_spot" ["walker", "value"] false m_check_spot 4 :=
  fn_ok (body := b_check_spot) D sc_check_spot fun f cdv A outer s H E hr => by
    have tk := takes_of (X := cxOf (L2.CX P w) P w K mg base N_check_spot "check_spot" (defScope s_check_spot) f cdv A outer s H E) (E := E) rfl rfl rfl rfl
    have hp := passes_of (X := cxOf (L2.CX P w) P w K mg base N_check_spot "check_spot" (defScope s_check_spot) f cdv A outer s H E) rfl
    exact (pssd_one (psd_if (ptd_not (ptd_val (pd_call k_is_spot hr (by decide) tk (pad_cons (pd_var 0) (pad_cons (pd_var 1) pad_nil)))))
    (pssd_one (psd_raise T.e_1 rfl tk))
    pssd_nil))
abbrev s_led_from : Stmt := topS 19
abbrev N_led_from : List Str := ["walker", "place", "move", "steps", "source", "target", "change"]
theorem sc_led_from : FnScope N_led_from ["walker", "place", "move"] (defScope s_led_from) := ⟨rfl, rfl, rfl, by decide +kernel, rfl, by decide +kernel, by decide +kernel⟩
def b_led_from : Sm := (seqS (setS 3 (opD ixD (varD 0) (constD (.int 1))))
  (seqS (ifS (boolD (opD (cmpD fun i j => decide (i < j)) (varD 2) (unD lenD (varD 3))))
  (seqS (asgS (opD ixD (varD 3) (varD 2)) (tupT (consT (nameT 4) (consT (nameT 5) (consT (nameT 6) nilT)))))
  (seqS (ifS (orT (boolD (opD neD (varD 4) (opD ixD (varD 1) (constD (.int 0))))) (boolD (opD (cmpD fun i j => decide (i < j)) (opD addD (opD ixD (varD 1) (constD (.int 1))) (varD 6)) (constD (.int 0)))))
  (retS (constD .none))
  nextS)
  (retS (tupD (consD (varD 5) (consD (opD addD (opD ixD (varD 1) (constD (.int 1))) (varD 6)) nilD))))))
  nextS)
  (seqS (asgS (opD ixD (opD ixD (varD 0) (constD (.int 2))) (opD subD (varD 2) (unD lenD (varD 3)))) (tupT (consT (nameT 4) (consT (nameT 5) nilT))))
  (retS (ifD (boolD (opD eqD (varD 1) (tupD (consD (varD 4) (consD (constD (.int 0)) nilD))))) (tupD (consD (varD 5) (consD (constD (.int 0)) nilD))) (constD .none))))))
def m_led_from : Fn := fnD 4 false b_led_from
theorem ok_led_from (T : Tx K mg cls) (D : Df K mg "led_from" s_led_from ["walker", "place", "move"])  : Kept P w K mg base cls "led_from" ["walker", "place", "move"] false m_led_from 1 :=
  fn_ok (body := b_led_from) D sc_led_from fun f cdv A outer s H E hr => by
    have tk := takes_of (X := cxOf (L2.CX P w) P w K mg base N_led_from "led_from" (defScope s_led_from) f cdv A outer s H E) (E := E) rfl rfl rfl rfl
    have hp := passes_of (X := cxOf (L2.CX P w) P w K mg base N_led_from "led_from" (defScope s_led_from) f cdv A outer s H E) rfl
    exact (pssd_cons (psd_set 3 sc_led_from.nd (pd_ix (pd_var 0) pd_int))
    (pssd_cons (psd_if (ptd_cmp c_lt (pd_var 2) (pd_len T.n_len (pd_var 3)))
    (pssd_cons (psd_asg (pd_ix (pd_var 3) (pd_var 2)) (pgd_tup rfl (pgsd_cons (pgd_name 4 sc_led_from.nd) (pgsd_cons (pgd_name 5 sc_led_from.nd) (pgsd_cons (pgd_name 6 sc_led_from.nd) pgsd_nil))) len3))
    (pssd_cons (psd_if (PW.pt (pwd_or (ptd_cmp (c_ne hr) (pd_var 4) (pd_ix (pd_var 1) pd_int)) (pwd_or1 (ptd_cmp c_lt (pd_add (pd_ix (pd_var 1) pd_int) (pd_var 6)) pd_int))))
    (pssd_one (psd_ret pd_non))
    pssd_nil)
    (pssd_one (psd_ret (pd_tup (pad_cons (pd_var 5) (pad_cons (pd_add (pd_ix (pd_var 1) pd_int) (pd_var 6)) pad_nil)))))))
    pssd_nil)
    (pssd_cons (psd_asg (pd_ix (pd_ix (pd_var 0) pd_int) (pd_sub (pd_var 2) (pd_len T.n_len (pd_var 3)))) (pgd_tup rfl (pgsd_cons (pgd_name 4 sc_led_from.nd) (pgsd_cons (pgd_name 5 sc_led_from.nd) pgsd_nil)) len2))
    (pssd_one (psd_ret (pd_if (ptd_cmp (c_eq hr) (pd_var 1) (pd_tup (pad_cons (pd_var 4) (pad_cons pd_int pad_nil)))) (pd_tup (pad_cons (pd_var 5) (pad_cons pd_int pad_nil))) pd_non))))))
abbrev s_count_of_moves : Stmt := topS 20
abbrev N_count_of_moves : List Str := ["walker"]
theorem sc_count_of_moves : FnScope N_count_of_moves ["walker"] (defScope s_count_of_moves) := ⟨rfl, rfl, rfl, by decide +kernel, rfl, by decide +kernel, by decide +kernel⟩
def b_count_of_moves : Sm := (retS (opD addD (unD lenD (opD ixD (varD 0) (constD (.int 1)))) (unD lenD (opD ixD (varD 0) (constD (.int 2))))))
def m_count_of_moves : Fn := fnD 0 false b_count_of_moves
theorem ok_count_of_moves (T : Tx K mg cls) (D : Df K mg "count_of_moves" s_count_of_moves ["walker"])  : Kept P w K mg base cls "count_of_moves" ["walker"] false m_count_of_moves 1 :=
  fn_ok (body := b_count_of_moves) D sc_count_of_moves fun f cdv A outer s H E hr => by
    have tk := takes_of (X := cxOf (L2.CX P w) P w K mg base N_count_of_moves "count_of_moves" (defScope s_count_of_moves) f cdv A outer s H E) (E := E) rfl rfl rfl rfl
    have hp := passes_of (X := cxOf (L2.CX P w) P w K mg base N_count_of_moves "count_of_moves" (defScope s_count_of_moves) f cdv A outer s H E) rfl
    exact (pssd_one (psd_ret (pd_add (pd_len T.n_len (pd_ix (pd_var 0) pd_int)) (pd_len T.n_len (pd_ix (pd_var 0) pd_int)))))
abbrev s_all_moves : Stmt := topS 21
abbrev N_all_moves : List Str := ["walker", "place", "told", "move", "one"]
theorem sc_all_moves : FnScope N_all_moves ["walker", "place"] (defScope s_all_moves) := ⟨rfl, rfl, rfl, by decide +kernel, rfl, by decide +kernel, by decide +kernel⟩
def b_all_moves : Sm := (seqS (setOS 2 (lcO (rangeD (callD 1 m_count_of_moves (consD (varD 0) nilD))) [3] (nameT 3) yesT (tupD (consD (varD 3) (consD (callD 3 m_led_from (consD (varD 0) (consD (varD 1) (consD (varD 3) nilD)))) nilD))))) (shutS 2 (retS (shareO (lcO (itemsD (varD 2)) [4] (nameT 4) (boolD (unD notNoneD (opD ixD (varD 4) (constD (.int 1))))) (varD 4))))))
def m_all_moves : Fn := fnD 3 false b_all_moves
theorem ok_all_moves (T : Tx K mg cls) (D : Df K mg "all_moves" s_all_moves ["walker", "place"]) (k_count_of_moves : Kept P w K mg base cls "count_of_moves" ["walker"] false m_count_of_moves 1) (k_led_from : Kept P w K mg base cls "led_from" ["walker", "place", "move"] false m_led_from 1) : Kept P w K mg base cls "all_moves" ["walker", "place"] false m_all_moves 2 :=
  fn_ok (body := b_all_moves) D sc_all_moves fun f cdv A outer s H E hr => by
    have tk := takes_of (X := cxOf (L2.CX P w) P w K mg base N_all_moves "all_moves" (defScope s_all_moves) f cdv A outer s H E) (E := E) rfl rfl rfl rfl
    have hp := passes_of (X := cxOf (L2.CX P w) P w K mg base N_all_moves "all_moves" (defScope s_all_moves) f cdv A outer s H E) rfl
    exact (pssd_setLc 2 (psd_setLcO 2 (own := [("move", 3)]) rfl sc_all_moves.nd (sw_true rfl rfl rfl (by decide +kernel)) (pid_range T.n_range (pd_call k_count_of_moves hr (by decide) tk (pad_cons (pd_var 0) pad_nil))) (blkOk_by (own := [("move", 3)]) (N := N_all_moves) (sc := defScope s_all_moves) (by decide +kernel)) (fun _ _ _ _ _ => (pgd_name 3 sc_all_moves.nd)) (fun _ _ _ _ _ => ptsd_nil) (fun _ _ _ _ _ => (pd_tup (pad_cons (pd_var 3) (pad_cons (pd_call k_led_from hr (by decide) takes0 (pad_cons (pd_var 0) (pad_cons (pd_var 1) (pad_cons (pd_var 3) pad_nil)))) pad_nil))))) (pssd_one (psd_ret (pd_share (po_lc (own := [("one", 4)]) rfl sc_all_moves.nd (pid_seq (pd_var 2)) (blkOk_by (own := [("one", 4)]) (N := N_all_moves) (sc := defScope s_all_moves) (by decide +kernel)) (fun _ _ _ _ _ => (pgd_name 4 sc_all_moves.nd)) (fun _ _ _ _ _ => (ptsd_one (ptd_notN (pd_ix (pd_var 4) pd_int)))) (fun _ _ _ _ _ => (pd_var 4)))))))
abbrev s_moves_at : Stmt := topS 22
abbrev N_moves_at : List Str := ["walker", "place"]
theorem sc_moves_at : FnScope N_moves_at ["walker", "place"] (defScope s_moves_at) := ⟨rfl, rfl, rfl, by decide +kernel, rfl, by decide +kernel, by decide +kernel⟩
def b_moves_at : Sm := (seqS (dropS (callD 1 m_check_walker (consD (varD 0) nilD)))
  (seqS (dropS (callD 2 m_check_spot (consD (varD 0) (consD (varD 1) nilD))))
  (retS (callD 2 m_all_moves (consD (varD 0) (consD (varD 1) nilD))))))
def m_moves_at : Fn := fnD 0 false b_moves_at
theorem ok_moves_at (T : Tx K mg cls) (D : Df K mg "moves_at" s_moves_at ["walker", "place"]) (k_check_walker : Kept P w K mg base cls "check_walker" ["value"] false m_check_walker 5) (k_check_spot : Kept P w K mg base cls "check_spot" ["walker", "value"] false m_check_spot 4) (k_all_moves : Kept P w K mg base cls "all_moves" ["walker", "place"] false m_all_moves 2) : Kept P w K mg base cls "moves_at" ["walker", "place"] false m_moves_at 6 :=
  fn_ok (body := b_moves_at) D sc_moves_at fun f cdv A outer s H E hr => by
    have tk := takes_of (X := cxOf (L2.CX P w) P w K mg base N_moves_at "moves_at" (defScope s_moves_at) f cdv A outer s H E) (E := E) rfl rfl rfl rfl
    have hp := passes_of (X := cxOf (L2.CX P w) P w K mg base N_moves_at "moves_at" (defScope s_moves_at) f cdv A outer s H E) rfl
    exact (pssd_cons (psd_expr (pd_call k_check_walker hr (by decide) tk (pad_cons (pd_var 0) pad_nil)))
    (pssd_cons (psd_expr (pd_call k_check_spot hr (by decide) tk (pad_cons (pd_var 0) (pad_cons (pd_var 1) pad_nil))))
    (pssd_one (psd_ret (pd_call k_all_moves hr (by decide) tk (pad_cons (pd_var 0) (pad_cons (pd_var 1) pad_nil)))))))
abbrev s_law_numbers : Stmt := topS 30
abbrev N_law_numbers : List Str := ["script", "numbers", "cell", "rest", "k"]
theorem sc_law_numbers : FnScope N_law_numbers ["script"] (defScope s_law_numbers) := ⟨rfl, rfl, rfl, by decide +kernel, rfl, by decide +kernel, by decide +kernel⟩
def b_law_numbers : Sm := (ifS (boolD (opD (cmpD fun i j => decide (j ≤ i)) (varD 2) (opD powD (constD (.int 10)) (constD (.int 18)))))
  (seqS (setS 3 (varD 2))
  (forS (rangeD (constD (.int 60))) (nameT 4)
  (ifS (boolD (opD (cmpD fun i j => decide (j < i)) (varD 3) (constD (.int 0))))
  (seqS (appS 1 (opD modD (varD 3) (constD (.int 1000000))))
  (setS 3 (opD fdivD (varD 3) (constD (.int 1000000)))))
  nextS)))
  (seqS (appS 1 (opD modD (varD 2) (constD (.int 1000000))))
  (forS (rangeD (constD (.int 5))) (nameT 4)
  (appS 1 (opD modD (callD 2 m_law_mixed (consD (callD 2 m_law_mixed (consD (opD modD (varD 2) (constD (.int 2147483647))) (consD (varD 4) nilD))) (consD (opD addD (varD 4) (constD (.int 7))) nilD))) (constD (.int 1000000)))))))
def t_law_numbers : Tg := (nameT 2)
theorem ok_law_numbers (T : Tx K mg cls) (D : Df K mg "_law_numbers" s_law_numbers ["script"]) (k_law_mixed : Kept P w K mg base cls "_law_mixed" ["number", "k"] false m_law_mixed 1)
    (hm : ∀ ns : List Int, ns.length ≤ 63 → ∃ (ms : List Int) (ρ' : Nv), Small ms ∧ forD t_law_numbers b_law_numbers (ns.map PyData.int) (.sc :: .ow (.lst []) :: List.replicate 3 .no) none = .nx ρ' none ∧ ρ'[1]? = some (.ow (.lst (ms.map PyData.int)))) :
    ∃ (f : Addr) (fd : FuncData), mg "_law_numbers" = some (.ref f) ∧ PySem.W.keepIn K (.ref f) = true ∧ L2.Binds K fd ["script"] [] ∧ FnOk P w K mg base (L2.CX P w) 2 f fd ["script"] (spNum K) :=
  num_ok (t := t_law_numbers) (sb := b_law_numbers) D sc_law_numbers (fun f cdv A outer s H E ns hr => by
    have tk := takes_of (X := cxOf (L2.CX P w) P w K mg base N_law_numbers "_law_numbers" (defScope s_law_numbers) f cdv A outer s H E) (E := E) rfl rfl rfl rfl
    have hp := passes_of (X := cxOf (L2.CX P w) P w K mg base N_law_numbers "_law_numbers" (defScope s_law_numbers) f cdv A outer s H E) rfl
    exact pss_cons (psd_setO 1 sc_law_numbers.nd (po_lst pad_nil)) (pss_cons (psd_forSc 0 hp rfl (pgd_name 2 sc_law_numbers.nd)
    (pssd_one (psd_if (ptd_cmp c_ge (pd_var 2) (pd_pow pd_int pd_int))
    (pssd_cons (psd_set 3 sc_law_numbers.nd (pd_var 2))
    (pssd_one (psd_for hp rfl (pid_range T.n_range pd_int) (pgd_name 4 sc_law_numbers.nd)
    (pssd_one (psd_if (ptd_cmp c_gt (pd_var 3) pd_int)
    (pssd_cons (psd_app 1 (pd_mod (pd_var 3) pd_int))
    (pssd_one (psd_set 3 sc_law_numbers.nd (pd_fdiv (pd_var 3) pd_int))))
    pssd_nil)))))
    (pssd_cons (psd_app 1 (pd_mod (pd_var 2) pd_int))
    (pssd_one (psd_for hp rfl (pid_range T.n_range pd_int) (pgd_name 4 sc_law_numbers.nd)
    (pssd_one (psd_app 1 (pd_mod (pd_call k_law_mixed hr (by decide) tk (pad_cons (pd_call k_law_mixed hr (by decide) tk (pad_cons (pd_mod (pd_var 2) pd_int) (pad_cons (pd_var 4) pad_nil))) (pad_cons (pd_add (pd_var 4) pd_int) pad_nil))) pd_int))))))))) (pssd_shut 1 (pssd_one (psd_ret (pd_var 1)))))) hm
abbrev s_law_all_equal : Stmt := topS 33
abbrev N_law_all_equal : List Str := ["actual", "due", "k"]
theorem sc_law_all_equal : FnScope N_law_all_equal ["actual", "due"] (defScope s_law_all_equal) := ⟨rfl, rfl, rfl, by decide +kernel, rfl, by decide +kernel, by decide +kernel⟩
def b_law_all_equal (m_law_equal : Fn) : Sm := (seqS (forS (rangeD (unD lenD (varD 1))) (nameT 2)
  (ifS (notT (truthD (callD 2 m_law_equal (consD (opD ixD (varD 0) (varD 2)) (consD (opD ixD (varD 1) (varD 2)) nilD)))))
  (retS (constD (.bool false)))
  nextS))
  (retS (constD (.bool true))))
theorem ok_law_all_equal {m_law_equal : Fn} {j : Nat} (T : Tx K mg cls) (D : Df K mg "_law_all_equal" s_law_all_equal ["actual", "due"]) (k_law_equal : Kept P w K mg base cls "_law_equal" ["actual", "due"] false m_law_equal j) : Kept P w K mg base cls "_law_all_equal" ["actual", "due"] false (fnD 1 false (b_law_all_equal m_law_equal)) (j + 1) :=
  fn_ok (body := b_law_all_equal m_law_equal) D sc_law_all_equal fun f cdv A outer s H E hr => by
    have tk := takes_of (X := cxOf (L2.CX P w) P w K mg base N_law_all_equal "_law_all_equal" (defScope s_law_all_equal) f cdv A outer s H E) (E := E) rfl rfl rfl rfl
    have hp := passes_of (X := cxOf (L2.CX P w) P w K mg base N_law_all_equal "_law_all_equal" (defScope s_law_all_equal) f cdv A outer s H E) rfl
    exact (pssd_cons (psd_for hp rfl (pid_range T.n_range (pd_len T.n_len (pd_var 1))) (pgd_name 2 sc_law_all_equal.nd)
    (pssd_one (psd_if (ptd_not (ptd_val (pd_call k_law_equal hr (Nat.le_refl _) tk (pad_cons (pd_ix (pd_var 0) (pd_var 2)) (pad_cons (pd_ix (pd_var 1) (pd_var 2)) pad_nil)))))
    (pssd_one (psd_ret pd_bl))
    pssd_nil)))
    (pssd_one (psd_ret pd_bl)))
abbrev s_law_equal : Stmt := topS 32
abbrev N_law_equal : List Str := ["actual", "due"]
theorem sc_law_equal : FnScope N_law_equal ["actual", "due"] (defScope s_law_equal) := ⟨rfl, rfl, rfl, by decide +kernel, rfl, by decide +kernel, by decide +kernel⟩
def b_law_equal (m_law_all_equal : Fn) : Sm := (seqS (ifS (truthD (unD (isiD "list") (varD 1)))
  (retS (andV (unD (isiD "list") (varD 0)) (andV (opD eqD (unD lenD (varD 0)) (unD lenD (varD 1))) (callD 2 m_law_all_equal (consD (varD 0) (consD (varD 1) nilD))))))
  nextS)
  (seqS (ifS (truthD (unD (isiD "tuple") (varD 1)))
  (retS (andV (unD (isiD "tuple") (varD 0)) (andV (opD eqD (unD lenD (varD 0)) (unD lenD (varD 1))) (callD 2 m_law_all_equal (consD (varD 0) (consD (varD 1) nilD))))))
  nextS)
  (seqS (ifS (truthD (unD (isiD "bool") (varD 1)))
  (retS (andV (unD (isiD "bool") (varD 0)) (opD eqD (varD 0) (varD 1))))
  nextS)
  (seqS (ifS (truthD (unD (isiD "int") (varD 1)))
  (retS (andV (unD (isiD "int") (varD 0)) (andV (notV (unD (isiD "bool") (varD 0))) (opD eqD (varD 0) (varD 1)))))
  nextS)
  (seqS (ifS (truthD (unD (isiD "str") (varD 1)))
  (retS (andV (unD (isiD "str") (varD 0)) (opD eqD (varD 0) (varD 1))))
  nextS)
  (retS (unD isNoneD (varD 0))))))))
theorem ok_law_equal {m_law_all_equal : Fn} {j : Nat} (T : Tx K mg cls) (D : Df K mg "_law_equal" s_law_equal ["actual", "due"]) (k_law_all_equal : Kept P w K mg base cls "_law_all_equal" ["actual", "due"] false m_law_all_equal j) : Kept P w K mg base cls "_law_equal" ["actual", "due"] false (fnD 0 false (b_law_equal m_law_all_equal)) (j + 1) :=
  fn_ok (body := b_law_equal m_law_all_equal) D sc_law_equal fun f cdv A outer s H E hr => by
    have tk := takes_of (X := cxOf (L2.CX P w) P w K mg base N_law_equal "_law_equal" (defScope s_law_equal) f cdv A outer s H E) (E := E) rfl rfl rfl rfl
    have hp := passes_of (X := cxOf (L2.CX P w) P w K mg base N_law_equal "_law_equal" (defScope s_law_equal) f cdv A outer s H E) rfl
    exact (pssd_cons (psd_if (ptd_val (pd_isi kit_list T.n_isinstance T.n_list PyProof.Rows.boot_list (pd_var 1)))
    (pssd_one (psd_ret (pd_and (pd_isi kit_list T.n_isinstance T.n_list PyProof.Rows.boot_list (pd_var 0)) (pd_and (pd_cmp (c_eq hr) (pd_len T.n_len (pd_var 0)) (pd_len T.n_len (pd_var 1))) (pd_one (pd_call k_law_all_equal hr (Nat.le_refl _) tk (pad_cons (pd_var 0) (pad_cons (pd_var 1) pad_nil))))))))
    pssd_nil)
    (pssd_cons (psd_if (ptd_val (pd_isi kit_tuple T.n_isinstance T.n_tuple PyProof.Rows.boot_tuple (pd_var 1)))
    (pssd_one (psd_ret (pd_and (pd_isi kit_tuple T.n_isinstance T.n_tuple PyProof.Rows.boot_tuple (pd_var 0)) (pd_and (pd_cmp (c_eq hr) (pd_len T.n_len (pd_var 0)) (pd_len T.n_len (pd_var 1))) (pd_one (pd_call k_law_all_equal hr (Nat.le_refl _) tk (pad_cons (pd_var 0) (pad_cons (pd_var 1) pad_nil))))))))
    pssd_nil)
    (pssd_cons (psd_if (ptd_val (pd_isi kit_bool T.n_isinstance T.n_bool PyProof.Rows.boot_bool (pd_var 1)))
    (pssd_one (psd_ret (pd_and (pd_isi kit_bool T.n_isinstance T.n_bool PyProof.Rows.boot_bool (pd_var 0)) (pd_one (pd_cmp (c_eq hr) (pd_var 0) (pd_var 1))))))
    pssd_nil)
    (pssd_cons (psd_if (ptd_val (pd_isi kit_int T.n_isinstance T.n_int PyProof.Rows.boot_int (pd_var 1)))
    (pssd_one (psd_ret (pd_and (pd_isi kit_int T.n_isinstance T.n_int PyProof.Rows.boot_int (pd_var 0)) (pd_and (pd_not (pd_isi kit_bool T.n_isinstance T.n_bool PyProof.Rows.boot_bool (pd_var 0))) (pd_one (pd_cmp (c_eq hr) (pd_var 0) (pd_var 1)))))))
    pssd_nil)
    (pssd_cons (psd_if (ptd_val (pd_isi kit_str T.n_isinstance T.n_str PyProof.Rows.boot_str (pd_var 1)))
    (pssd_one (psd_ret (pd_and (pd_isi kit_str T.n_isinstance T.n_str PyProof.Rows.boot_str (pd_var 0)) (pd_one (pd_cmp (c_eq hr) (pd_var 0) (pd_var 1))))))
    pssd_nil)
    (pssd_one (psd_ret (pd_isN (pd_var 0)))))))))
mutual
def eqA : Nat → Fn
  | 0 => fun _ _ => .bad
  | n + 1 => fnD 0 false (b_law_equal (eqB n))
def eqB : Nat → Fn
  | 0 => fun _ _ => .bad
  | n + 1 => fnD 1 false (b_law_all_equal (eqA n))
end
def m_law_equal : Fn := eqA 16
theorem ok_eqs (T : Tx K mg cls) (D1 : Df K mg "_law_equal" s_law_equal ["actual", "due"]) (D2 : Df K mg "_law_all_equal" s_law_all_equal ["actual", "due"]) : ∀ n : Nat, Kept P w K mg base cls "_law_equal" ["actual", "due"] false (eqA n) (n + 1) ∧ Kept P w K mg base cls "_law_all_equal" ["actual", "due"] false (eqB n) (n + 1)
  | 0 => ⟨by unfold eqA; exact kept_bad D1, by unfold eqB; exact kept_bad D2⟩
  | n + 1 => by
    obtain ⟨h1, h2⟩ := ok_eqs T D1 D2 n
    exact ⟨by unfold eqA; exact ok_law_equal T D1 h2, by unfold eqB; exact ok_law_all_equal T D2 h1⟩
theorem ok_law_equal40 (T : Tx K mg cls) (D1 : Df K mg "_law_equal" s_law_equal ["actual", "due"]) (D2 : Df K mg "_law_all_equal" s_law_all_equal ["actual", "due"]) : Kept P w K mg base cls "_law_equal" ["actual", "due"] false m_law_equal 40 := (ok_eqs T D1 D2 16).1.mono (by decide)
abbrev s_law_moves : Stmt := topS 35
abbrev N_law_moves : List Str := ["walker", "place", "found", "steps", "k"]
theorem sc_law_moves : FnScope N_law_moves ["walker", "place"] (defScope s_law_moves) := ⟨rfl, rfl, rfl, by decide +kernel, rfl, by decide +kernel, by decide +kernel⟩
def b_law_moves : Sm := (seqS (setOS 2 (lstO nilD))
  (seqS (setS 3 (opD ixD (varD 0) (constD (.int 1))))
  (seqS (forS (rangeD (unD lenD (varD 3))) (nameT 4)
  (ifS (andT (boolD (opD eqD (opD ixD (opD ixD (varD 3) (varD 4)) (constD (.int 0))) (opD ixD (varD 1) (constD (.int 0))))) (boolD (opD (cmpD fun i j => decide (j ≤ i)) (opD addD (opD ixD (varD 1) (constD (.int 1))) (opD ixD (opD ixD (varD 3) (varD 4)) (constD (.int 2)))) (constD (.int 0)))))
  (appS 2 (tupD (consD (varD 4) (consD (tupD (consD (opD ixD (opD ixD (varD 3) (varD 4)) (constD (.int 1))) (consD (opD addD (opD ixD (varD 1) (constD (.int 1))) (opD ixD (opD ixD (varD 3) (varD 4)) (constD (.int 2)))) nilD))) nilD))))
  nextS))
  (seqS (forS (rangeD (unD lenD (opD ixD (varD 0) (constD (.int 2))))) (nameT 4)
  (ifS (boolD (opD eqD (varD 1) (tupD (consD (opD ixD (opD ixD (opD ixD (varD 0) (constD (.int 2))) (varD 4)) (constD (.int 0))) (consD (constD (.int 0)) nilD)))))
  (appS 2 (tupD (consD (opD addD (unD lenD (varD 3)) (varD 4)) (consD (tupD (consD (opD ixD (opD ixD (opD ixD (varD 0) (constD (.int 2))) (varD 4)) (constD (.int 1))) (consD (constD (.int 0)) nilD))) nilD))))
  nextS))
  (shutS 2 (retS (varD 2)))))))
def m_law_moves : Fn := fnD 3 false b_law_moves
theorem ok_law_moves (T : Tx K mg cls) (D : Df K mg "_law_moves" s_law_moves ["walker", "place"])  : Kept P w K mg base cls "_law_moves" ["walker", "place"] false m_law_moves 1 :=
  fn_ok (body := b_law_moves) D sc_law_moves fun f cdv A outer s H E hr => by
    have tk := takes_of (X := cxOf (L2.CX P w) P w K mg base N_law_moves "_law_moves" (defScope s_law_moves) f cdv A outer s H E) (E := E) rfl rfl rfl rfl
    have hp := passes_of (X := cxOf (L2.CX P w) P w K mg base N_law_moves "_law_moves" (defScope s_law_moves) f cdv A outer s H E) rfl
    exact (pssd_cons (psd_setO 2 sc_law_moves.nd (po_lst pad_nil))
    (pssd_cons (psd_set 3 sc_law_moves.nd (pd_ix (pd_var 0) pd_int))
    (pssd_cons (psd_for hp rfl (pid_range T.n_range (pd_len T.n_len (pd_var 3))) (pgd_name 4 sc_law_moves.nd)
    (pssd_one (psd_if (PW.pt (pwd_and (ptd_cmp (c_eq hr) (pd_ix (pd_ix (pd_var 3) (pd_var 4)) pd_int) (pd_ix (pd_var 1) pd_int)) (pwd_and1 (ptd_cmp c_ge (pd_add (pd_ix (pd_var 1) pd_int) (pd_ix (pd_ix (pd_var 3) (pd_var 4)) pd_int)) pd_int))))
    (pssd_one (psd_app 2 (pd_tup (pad_cons (pd_var 4) (pad_cons (pd_tup (pad_cons (pd_ix (pd_ix (pd_var 3) (pd_var 4)) pd_int) (pad_cons (pd_add (pd_ix (pd_var 1) pd_int) (pd_ix (pd_ix (pd_var 3) (pd_var 4)) pd_int)) pad_nil))) pad_nil)))))
    pssd_nil)))
    (pssd_cons (psd_for hp rfl (pid_range T.n_range (pd_len T.n_len (pd_ix (pd_var 0) pd_int))) (pgd_name 4 sc_law_moves.nd)
    (pssd_one (psd_if (ptd_cmp (c_eq hr) (pd_var 1) (pd_tup (pad_cons (pd_ix (pd_ix (pd_ix (pd_var 0) pd_int) (pd_var 4)) pd_int) (pad_cons pd_int pad_nil))))
    (pssd_one (psd_app 2 (pd_tup (pad_cons (pd_add (pd_len T.n_len (pd_var 3)) (pd_var 4)) (pad_cons (pd_tup (pad_cons (pd_ix (pd_ix (pd_ix (pd_var 0) pd_int) (pd_var 4)) pd_int) (pad_cons pd_int pad_nil))) pad_nil)))))
    pssd_nil)))
    (pssd_shut 2 (pssd_one (psd_ret (pd_var 2))))))))
abbrev s_led_along : Stmt := topS 24
abbrev N_led_along : List Str := ["walker", "place", "word", "move"]
theorem sc_led_along : FnScope N_led_along ["walker", "place", "word"] (defScope s_led_along) := ⟨rfl, rfl, rfl, by decide +kernel, rfl, by decide +kernel, by decide +kernel⟩
def b_led_along : Sm := (seqS (forS (itemsD (varD 2)) (nameT 3)
  (ifS (boolD (unD notNoneD (varD 1)))
  (setS 1 (callD 3 m_led_from (consD (varD 0) (consD (varD 1) (consD (varD 3) nilD)))))
  nextS))
  (retS (varD 1)))
def m_led_along : Fn := fnD 1 false b_led_along
theorem ok_led_along (T : Tx K mg cls) (D : Df K mg "led_along" s_led_along ["walker", "place", "word"]) (k_led_from : Kept P w K mg base cls "led_from" ["walker", "place", "move"] false m_led_from 1) : Kept P w K mg base cls "led_along" ["walker", "place", "word"] false m_led_along 2 :=
  fn_ok (body := b_led_along) D sc_led_along fun f cdv A outer s H E hr => by
    have tk := takes_of (X := cxOf (L2.CX P w) P w K mg base N_led_along "led_along" (defScope s_led_along) f cdv A outer s H E) (E := E) rfl rfl rfl rfl
    have hp := passes_of (X := cxOf (L2.CX P w) P w K mg base N_led_along "led_along" (defScope s_led_along) f cdv A outer s H E) rfl
    exact (pssd_cons (psd_for hp rfl (pid_seq (pd_var 2)) (pgd_name 3 sc_led_along.nd)
    (pssd_one (psd_if (ptd_notN (pd_var 1))
    (pssd_one (psd_set 1 sc_led_along.nd (pd_call k_led_from hr (by decide) tk (pad_cons (pd_var 0) (pad_cons (pd_var 1) (pad_cons (pd_var 3) pad_nil))))))
    pssd_nil)))
    (pssd_one (psd_ret (pd_var 1))))
abbrev s_is_word_of : Stmt := topS 23
abbrev N_is_word_of : List Str := ["walker", "value", "move"]
theorem sc_is_word_of : FnScope N_is_word_of ["walker", "value"] (defScope s_is_word_of) := ⟨rfl, rfl, rfl, by decide +kernel, rfl, by decide +kernel, by decide +kernel⟩
def b_is_word_of : Sm := (seqS (ifS (notT (truthD (unD (isiD "tuple") (varD 1))))
  (retS (constD (.bool false)))
  nextS)
  (retS (opD eqD (shareO (lcO (itemsD (varD 1)) [2] (nameT 2) (orT (notT (truthD (callD 1 m_is_natural (consD (varD 2) nilD)))) (boolD (opD (cmpD fun i j => decide (j ≤ i)) (varD 2) (callD 1 m_count_of_moves (consD (varD 0) nilD))))) (varD 2))) (shareO (lstO nilD)))))
def m_is_word_of : Fn := fnD 1 false b_is_word_of
theorem ok_is_word_of (T : Tx K mg cls) (D : Df K mg "is_word_of" s_is_word_of ["walker", "value"]) (k_is_natural : Kept P w K mg base cls "is_natural" ["value"] false m_is_natural 1) (k_count_of_moves : Kept P w K mg base cls "count_of_moves" ["walker"] false m_count_of_moves 1) : Kept P w K mg base cls "is_word_of" ["walker", "value"] false m_is_word_of 2 :=
  fn_ok (body := b_is_word_of) D sc_is_word_of fun f cdv A outer s H E hr => by
    have tk := takes_of (X := cxOf (L2.CX P w) P w K mg base N_is_word_of "is_word_of" (defScope s_is_word_of) f cdv A outer s H E) (E := E) rfl rfl rfl rfl
    have hp := passes_of (X := cxOf (L2.CX P w) P w K mg base N_is_word_of "is_word_of" (defScope s_is_word_of) f cdv A outer s H E) rfl
    exact (pssd_cons (psd_if (ptd_not (ptd_val (pd_isi kit_tuple T.n_isinstance T.n_tuple PyProof.Rows.boot_tuple (pd_var 1))))
    (pssd_one (psd_ret pd_bl))
    pssd_nil)
    (pssd_one (psd_ret (pd_cmp (c_eq hr) (pd_share (po_lc (own := [("move", 2)]) rfl sc_is_word_of.nd (pid_seq (pd_var 1)) (blkOk_by (own := [("move", 2)]) (N := N_is_word_of) (sc := defScope s_is_word_of) (by decide +kernel)) (fun _ _ _ _ _ => (pgd_name 2 sc_is_word_of.nd)) (fun _ _ _ _ _ => (ptsd_one (PW.pt (pwd_or (ptd_not (ptd_val (pd_call k_is_natural hr (by decide) takes0 (pad_cons (pd_var 2) pad_nil)))) (pwd_or1 (ptd_cmp c_ge (pd_var 2) (pd_call k_count_of_moves hr (by decide) takes0 (pad_cons (pd_var 0) pad_nil)))))))) (fun _ _ _ _ _ => (pd_var 2)))) (pd_share (po_lst pad_nil))))))
abbrev s_walked_by : Stmt := topS 25
abbrev N_walked_by : List Str := ["walker", "place", "word"]
theorem sc_walked_by : FnScope N_walked_by ["walker", "place", "word"] (defScope s_walked_by) := ⟨rfl, rfl, rfl, by decide +kernel, rfl, by decide +kernel, by decide +kernel⟩
def b_walked_by : Sm := (seqS (dropS (callD 1 m_check_walker (consD (varD 0) nilD)))
  (seqS (dropS (callD 2 m_check_spot (consD (varD 0) (consD (varD 1) nilD))))
  (seqS (ifS (notT (truthD (callD 2 m_is_word_of (consD (varD 0) (consD (varD 2) nilD)))))
  (raiseS 2)
  nextS)
  (retS (callD 3 m_led_along (consD (varD 0) (consD (varD 1) (consD (varD 2) nilD))))))))
def m_walked_by : Fn := fnD 0 false b_walked_by
theorem ok_walked_by (T : Tx K mg cls) (D : Df K mg "walked_by" s_walked_by ["walker", "place", "word"]) (k_check_walker : Kept P w K mg base cls "check_walker" ["value"] false m_check_walker 5) (k_check_spot : Kept P w K mg base cls "check_spot" ["walker", "value"] false m_check_spot 4) (k_is_word_of : Kept P w K mg base cls "is_word_of" ["walker", "value"] false m_is_word_of 2) (k_led_along : Kept P w K mg base cls "led_along" ["walker", "place", "word"] false m_led_along 2) : Kept P w K mg base cls "walked_by" ["walker", "place", "word"] false m_walked_by 6 :=
  fn_ok (body := b_walked_by) D sc_walked_by fun f cdv A outer s H E hr => by
    have tk := takes_of (X := cxOf (L2.CX P w) P w K mg base N_walked_by "walked_by" (defScope s_walked_by) f cdv A outer s H E) (E := E) rfl rfl rfl rfl
    have hp := passes_of (X := cxOf (L2.CX P w) P w K mg base N_walked_by "walked_by" (defScope s_walked_by) f cdv A outer s H E) rfl
    exact (pssd_cons (psd_expr (pd_call k_check_walker hr (by decide) tk (pad_cons (pd_var 0) pad_nil)))
    (pssd_cons (psd_expr (pd_call k_check_spot hr (by decide) tk (pad_cons (pd_var 0) (pad_cons (pd_var 1) pad_nil))))
    (pssd_cons (psd_if (ptd_not (ptd_val (pd_call k_is_word_of hr (by decide) tk (pad_cons (pd_var 0) (pad_cons (pd_var 2) pad_nil)))))
    (pssd_one (psd_raise T.e_2 rfl tk))
    pssd_nil)
    (pssd_one (psd_ret (pd_call k_led_along hr (by decide) tk (pad_cons (pd_var 0) (pad_cons (pd_var 1) (pad_cons (pd_var 2) pad_nil)))))))))
abbrev s_law_turned : Stmt := topS 36
abbrev N_law_turned : List Str := ["walker", "s", "t", "c"]
theorem sc_law_turned : FnScope N_law_turned ["walker"] (defScope s_law_turned) := ⟨rfl, rfl, rfl, by decide +kernel, rfl, by decide +kernel, by decide +kernel⟩
def b_law_turned : Sm := (retS (tupD (consD (opD ixD (varD 0) (constD (.int 0))) (consD (unD tupleD (shareO (lcO (itemsD (opD ixD (varD 0) (constD (.int 1)))) [1, 2, 3] (tupT (consT (nameT 1) (consT (nameT 2) (consT (nameT 3) nilT)))) yesT (tupD (consD (varD 2) (consD (varD 1) (consD (unD negD (varD 3)) nilD))))))) (consD (unD tupleD (shareO (lcO (itemsD (opD ixD (varD 0) (constD (.int 2)))) [1, 2] (tupT (consT (nameT 1) (consT (nameT 2) nilT))) yesT (tupD (consD (varD 2) (consD (varD 1) nilD)))))) nilD)))))
def m_law_turned : Fn := fnD 3 false b_law_turned
theorem ok_law_turned (T : Tx K mg cls) (D : Df K mg "_law_turned" s_law_turned ["walker"])  : Kept P w K mg base cls "_law_turned" ["walker"] false m_law_turned 1 :=
  fn_ok (body := b_law_turned) D sc_law_turned fun f cdv A outer s H E hr => by
    have tk := takes_of (X := cxOf (L2.CX P w) P w K mg base N_law_turned "_law_turned" (defScope s_law_turned) f cdv A outer s H E) (E := E) rfl rfl rfl rfl
    have hp := passes_of (X := cxOf (L2.CX P w) P w K mg base N_law_turned "_law_turned" (defScope s_law_turned) f cdv A outer s H E) rfl
    exact (pssd_one (psd_ret (pd_tup (pad_cons (pd_ix (pd_var 0) pd_int) (pad_cons (pd_tuple T.n_tuple (pd_share (po_lc (own := [("s", 1), ("t", 2), ("c", 3)]) rfl sc_law_turned.nd (pid_seq (pd_ix (pd_var 0) pd_int)) (blkOk_by (own := [("s", 1), ("t", 2), ("c", 3)]) (N := N_law_turned) (sc := defScope s_law_turned) (by decide +kernel)) (fun _ _ _ _ _ => (pgd_tup rfl (pgsd_cons (pgd_name 1 sc_law_turned.nd) (pgsd_cons (pgd_name 2 sc_law_turned.nd) (pgsd_cons (pgd_name 3 sc_law_turned.nd) pgsd_nil))) len3)) (fun _ _ _ _ _ => ptsd_nil) (fun _ _ _ _ _ => (pd_tup (pad_cons (pd_var 2) (pad_cons (pd_var 1) (pad_cons (pd_neg (pd_var 3)) pad_nil)))))))) (pad_cons (pd_tuple T.n_tuple (pd_share (po_lc (own := [("s", 1), ("t", 2)]) rfl sc_law_turned.nd (pid_seq (pd_ix (pd_var 0) pd_int)) (blkOk_by (own := [("s", 1), ("t", 2)]) (N := N_law_turned) (sc := defScope s_law_turned) (by decide +kernel)) (fun _ _ _ _ _ => (pgd_tup rfl (pgsd_cons (pgd_name 1 sc_law_turned.nd) (pgsd_cons (pgd_name 2 sc_law_turned.nd) pgsd_nil)) len2)) (fun _ _ _ _ _ => ptsd_nil) (fun _ _ _ _ _ => (pd_tup (pad_cons (pd_var 2) (pad_cons (pd_var 1) pad_nil))))))) pad_nil))))))
abbrev s_law : Stmt := topS 41
abbrev N_law : List Str := ["script", "draws", "walker", "many", "place", "back", "told", "turn", "tests", "none", "bad", "move", "there", "word", "here", "ways", "due", "k"]
theorem sc_law : FnScope N_law ["script"] (defScope s_law) := ⟨rfl, rfl, rfl, by decide +kernel, rfl, by decide +kernel, by decide +kernel⟩
def b_law : Sm := (seqS (setS 2 (callG 2 1 m_law_walker (consD (constD (.int 4)) nilD)))
  (seqS (setS 3 (opD addD (unD lenD (opD ixD (varD 2) (constD (.int 1)))) (unD lenD (opD ixD (varD 2) (constD (.int 2))))))
  (seqS (setS 4 (tupD (consD (callG 2 1 m_law_draw (consD (opD ixD (varD 2) (constD (.int 0))) nilD)) (consD (callG 2 1 m_law_draw (consD (opD ixD (shareO (lstO (consD (constD (.int 1)) (consD (constD (.int 4)) (consD (constD (.int 1000000)) nilD))))) (callG 2 1 m_law_draw (consD (constD (.int 3)) nilD))) nilD)) nilD))))
  (seqS (setS 5 (callD 1 m_turned_walker (consD (varD 2) nilD)))
  (seqS (ifS (orT (notT (truthD (callD 2 m_law_equal (consD (varD 5) (consD (callD 1 m_law_turned (consD (varD 2) nilD)) nilD))))) (notT (truthD (callD 2 m_law_equal (consD (callD 1 m_turned_walker (consD (varD 5) nilD)) (consD (varD 2) nilD))))))
  (retS (constD (.bool false)))
  nextS)
  (seqS (setS 6 (callD 2 m_moves_at (consD (varD 2) (consD (varD 4) nilD))))
  (seqS (ifS (notT (truthD (callD 2 m_law_equal (consD (varD 6) (consD (callD 2 m_law_moves (consD (varD 2) (consD (varD 4) nilD))) nilD)))))
  (retS (constD (.bool false)))
  nextS)
  (seqS (forS (itemsD (varD 6)) (tupT (consT (nameT 11) (consT (nameT 12) nilT)))
  (ifS (boolD (opD notInD (tupD (consD (varD 11) (consD (varD 4) nilD))) (callD 2 m_moves_at (consD (varD 5) (consD (varD 12) nilD)))))
  (retS (constD (.bool false)))
  nextS))
  (seqS (asgS (tupD (consD (tupD nilD) (consD (varD 4) nilD))) (tupT (consT (nameT 13) (consT (nameT 14) nilT))))
  (seqS (forS (rangeD (callG 2 1 m_law_draw (consD (constD (.int 12)) nilD))) (nameT 7)
  (seqS (setS 15 (callD 2 m_law_moves (consD (varD 2) (consD (varD 14) nilD))))
  (ifS (boolD (opD (cmpD fun i j => decide (j < i)) (unD lenD (varD 15)) (constD (.int 0))))
  (seqS (asgS (opD ixD (varD 15) (callG 2 1 m_law_draw (consD (unD lenD (varD 15)) nilD))) (tupT (consT (nameT 11) (consT (nameT 14) nilT))))
  (setS 13 (opD addD (varD 13) (tupD (consD (varD 11) nilD)))))
  nextS)))
  (seqS (ifS (orT (notT (truthD (callD 2 m_law_equal (consD (callD 3 m_walked_by (consD (varD 2) (consD (varD 4) (consD (varD 13) nilD)))) (consD (varD 14) nilD))))) (notT (truthD (callD 2 m_law_equal (consD (callD 3 m_walked_by (consD (varD 5) (consD (varD 14) (consD (unD revD (varD 13)) nilD)))) (consD (varD 4) nilD))))))
  (retS (constD (.bool false)))
  nextS)
  (seqS (setOS 8 (lcO (rangeD (unD lenD (varD 13))) [17] (nameT 17) (boolD (opD (cmpD fun i j => decide (j ≤ i)) (opD ixD (varD 13) (varD 17)) (unD lenD (opD ixD (varD 2) (constD (.int 1)))))) (varD 17))) (shutS 8 (seqS (ifS (andT (boolD (opD eqD (unD lenD (varD 8)) (constD (.int 0)))) (boolD (opD neD (opD ixD (varD 14) (constD (.int 1))) (opD addD (opD ixD (varD 4) (constD (.int 1))) (unD sumD (shareO (lcO (itemsD (varD 13)) [11] (nameT 11) yesT (opD ixD (opD ixD (opD ixD (varD 2) (constD (.int 1))) (varD 11)) (constD (.int 2))))))))))
  (retS (constD (.bool false)))
  nextS)
  (seqS (ifS (boolD (opD (cmpD fun i j => decide (j < i)) (varD 3) (constD (.int 0))))
  (seqS (setS 11 (callG 2 1 m_law_draw (consD (varD 3) nilD)))
  (seqS (setOS 16 (lcO (itemsD (callD 2 m_law_moves (consD (varD 2) (consD (varD 14) nilD)))) [17, 12] (tupT (consT (nameT 17) (consT (nameT 12) nilT))) (boolD (opD eqD (varD 17) (varD 11))) (varD 12))) (shutS 16 (seqS (ifS (notT (truthD (callD 2 m_law_equal (consD (callD 3 m_walked_by (consD (varD 2) (consD (varD 4) (consD (opD addD (varD 13) (tupD (consD (varD 11) nilD))) nilD)))) (consD (ifD (boolD (opD (cmpD fun i j => decide (j < i)) (unD lenD (varD 16)) (constD (.int 0)))) (opD ixD (varD 16) (constD (.int 0))) (constD .none)) nilD)))))
  (retS (constD (.bool false)))
  nextS)
  (ifS (andT (boolD (opD eqD (unD lenD (varD 16)) (constD (.int 0)))) (boolD (unD notNoneD (callD 3 m_walked_by (consD (varD 2) (consD (varD 4) (consD (opD addD (varD 13) (tupD (consD (varD 11) (consD (varD 11) nilD)))) nilD)))))))
  (retS (constD (.bool false)))
  nextS)))))
  nextS)
  (seqS (setS 9 (shareO (lstO (consD (constD .none) (consD (tupD (consD (constD (.int 0)) (consD (tupD nilD) (consD (tupD nilD) nilD)))) (consD (tupD (consD (constD (.int 9)) (consD (tupD nilD) (consD (tupD nilD) nilD)))) (consD (tupD (consD (constD (.int 1)) (consD (tupD (consD (tupD (consD (constD (.int 0)) (consD (constD (.int 1)) (consD (constD (.int 0)) nilD)))) nilD)) (consD (tupD nilD) nilD)))) (consD (tupD (consD (constD (.int 1)) (consD (tupD (consD (tupD (consD (constD (.int 0)) (consD (constD (.int 0)) (consD (constD (.int 4)) nilD)))) nilD)) (consD (tupD nilD) nilD)))) (consD (tupD (consD (constD (.int 1)) (consD (tupD (consD (tupD (consD (constD (.int 0)) (consD (constD (.int 0)) nilD))) nilD)) (consD (tupD nilD) nilD)))) (consD (tupD (consD (constD (.int 1)) (consD (tupD nilD) (consD (tupD (consD (tupD (consD (constD (.int 0)) (consD (constD (.int 1)) nilD))) nilD)) nilD)))) (consD (tupD (consD (constD (.int 1)) (consD (shareO (lstO nilD)) (consD (tupD nilD) nilD)))) (consD (tupD (consD (constD (.int 1)) (consD (tupD nilD) (consD (shareO (lstO nilD)) nilD)))) (consD (tupD (consD (constD (.int 1)) (consD (opD mulD (tupD (consD (tupD (consD (constD (.int 0)) (consD (constD (.int 0)) (consD (constD (.int 0)) nilD)))) nilD)) (constD (.int 17))) (consD (tupD nilD) nilD)))) (consD (tupD (consD (constD (.int 1)) (consD (tupD nilD) (consD (opD mulD (tupD (consD (tupD (consD (constD (.int 0)) (consD (constD (.int 0)) nilD))) nilD)) (constD (.int 7))) nilD)))) (consD (tupD (consD (constD (.bool true)) (consD (tupD nilD) (consD (tupD nilD) nilD)))) (consD (tupD (consD (constD (.int 1)) (consD (tupD (consD (tupD (consD (constD (.int 0)) (consD (constD (.int 0)) (consD (constD (.bool true)) nilD)))) nilD)) (consD (tupD nilD) nilD)))) (consD (shareO (lstO (consD (constD (.int 1)) (consD (tupD nilD) (consD (tupD nilD) nilD))))) nilD)))))))))))))))))
  (seqS (forS (itemsD (varD 9)) (nameT 10)
  (tryS 0 3 (seqS (dropS (callD 2 m_moves_at (consD (varD 10) (consD (tupD (consD (constD (.int 0)) (consD (constD (.int 0)) nilD))) nilD))))
  (retS (constD (.bool false)))) nextS))
  (seqS (forS (itemsD (shareO (lstO (consD (constD .none) (consD (tupD (consD (opD ixD (varD 2) (constD (.int 0))) (consD (constD (.int 0)) nilD))) (consD (tupD (consD (constD (.int 0)) (consD (unD negD (constD (.int 1))) nilD))) (consD (tupD (consD (constD (.int 0)) nilD)) (consD (shareO (lstO (consD (constD (.int 0)) (consD (constD (.int 0)) nilD)))) (consD (tupD (consD (constD (.int 0)) (consD (constD (.bool true)) nilD))) (consD (tupD (consD (unD negD (constD (.int 1))) (consD (constD (.int 0)) nilD))) nilD)))))))))) (nameT 10)
  (tryS 1 3 (seqS (dropS (callD 2 m_moves_at (consD (varD 2) (consD (varD 10) nilD))))
  (retS (constD (.bool false)))) nextS))
  (seqS (forS (itemsD (shareO (lstO (consD (constD .none) (consD (shareO (lstO (consD (constD (.int 0)) nilD))) (consD (tupD (consD (varD 3) nilD)) (consD (tupD (consD (unD negD (constD (.int 1))) nilD)) (consD (tupD (consD (constD (.bool true)) nilD)) (consD (constD (.str (PySem.Str.ofString "0"))) nilD))))))))) (nameT 10)
  (tryS 2 3 (seqS (dropS (callD 3 m_walked_by (consD (varD 2) (consD (varD 4) (consD (varD 10) nilD)))))
  (retS (constD (.bool false)))) nextS))
  (retS (constD (.bool true))))))))))))))))))))))
theorem ok_law {f : Addr} {fd : FuncData} (T : Tx K mg cls) (F : Fun K "law" "law" s_law f fd) (kn : ∃ (f : Addr) (fd : FuncData), mg "_law_numbers" = some (.ref f) ∧ PySem.W.keepIn K (.ref f) = true ∧ L2.Binds K fd ["script"] [] ∧ FnOk P w K mg base (L2.CX P w) 2 f fd ["script"] (spNum K))
    (k_law_walker : Kept P w K mg base cls "_law_walker" ["draws", "most"] true m_law_walker 3)
    (k_law_draw : Kept P w K mg base cls "_law_draw" ["draws", "many"] true m_law_draw 2)
    (k_turned_walker : Kept P w K mg base cls "turned_walker" ["walker"] false m_turned_walker 6)
    (k_law_equal : Kept P w K mg base cls "_law_equal" ["actual", "due"] false m_law_equal 40)
    (k_law_turned : Kept P w K mg base cls "_law_turned" ["walker"] false m_law_turned 1)
    (k_moves_at : Kept P w K mg base cls "moves_at" ["walker", "place"] false m_moves_at 6)
    (k_law_moves : Kept P w K mg base cls "_law_moves" ["walker", "place"] false m_law_moves 1)
    (k_walked_by : Kept P w K mg base cls "walked_by" ["walker", "place", "word"] false m_walked_by 6)
    (hm : ∀ ms : List Int, Small ms → ∃ g', b_law (.no :: .dr :: List.replicate 16 .no) (some (ms, 0)) = .rt (.bool true) g') : FnOk P w K mg base (L2.CX P w) 41 f fd ["script"] (spLaw K) :=
  law_ok (body := b_law) F sc_law (fun cdv A outer s H E hr => by
    have tk := takes_of (X := cxOf (L2.CX P w) P w K mg base N_law "law" (defScope s_law) f cdv A outer s H E) (E := E) rfl rfl rfl rfl
    have hp := passes_of (X := cxOf (L2.CX P w) P w K mg base N_law "law" (defScope s_law) f cdv A outer s H E) rfl
    obtain ⟨fn, fdn, hmn, hkn, hbn, Fn⟩ := kn
    exact (pss_cons (ps_set (i := 1) sc_law.nd rfl (by first | exact Or.inl rfl | exact Or.inr rfl) (pe_lst (pa_cons (pe_callS Fn (hr.mono (by decide)) (by rfl) hmn hkn hbn (fun σ => passAt tk σ) (pa_cons (pv 0) pa_nil)) (pa_cons pe_int pa_nil))))
      (pssd_cons (psd_set 2 sc_law.nd (pd_callG 1 k_law_walker hr (by decide) tk (pad_cons pd_int pad_nil)))
    (pssd_cons (psd_set 3 sc_law.nd (pd_add (pd_len T.n_len (pd_ix (pd_var 2) pd_int)) (pd_len T.n_len (pd_ix (pd_var 2) pd_int))))
    (pssd_cons (psd_set 4 sc_law.nd (pd_tup (pad_cons (pd_callG 1 k_law_draw hr (by decide) tk (pad_cons (pd_ix (pd_var 2) pd_int) pad_nil)) (pad_cons (pd_callG 1 k_law_draw hr (by decide) tk (pad_cons (pd_ix (pd_share (po_lst (pad_cons pd_int (pad_cons pd_int (pad_cons pd_int pad_nil))))) (pd_callG 1 k_law_draw hr (by decide) tk (pad_cons pd_int pad_nil))) pad_nil)) pad_nil))))
    (pssd_cons (psd_set 5 sc_law.nd (pd_call k_turned_walker hr (by decide) tk (pad_cons (pd_var 2) pad_nil)))
    (pssd_cons (psd_if (PW.pt (pwd_or (ptd_not (ptd_val (pd_call k_law_equal hr (by decide) tk (pad_cons (pd_var 5) (pad_cons (pd_call k_law_turned hr (by decide) tk (pad_cons (pd_var 2) pad_nil)) pad_nil))))) (pwd_or1 (ptd_not (ptd_val (pd_call k_law_equal hr (by decide) tk (pad_cons (pd_call k_turned_walker hr (by decide) tk (pad_cons (pd_var 5) pad_nil)) (pad_cons (pd_var 2) pad_nil))))))))
    (pssd_one (psd_ret pd_bl))
    pssd_nil)
    (pssd_cons (psd_set 6 sc_law.nd (pd_call k_moves_at hr (by decide) tk (pad_cons (pd_var 2) (pad_cons (pd_var 4) pad_nil))))
    (pssd_cons (psd_if (ptd_not (ptd_val (pd_call k_law_equal hr (by decide) tk (pad_cons (pd_var 6) (pad_cons (pd_call k_law_moves hr (by decide) tk (pad_cons (pd_var 2) (pad_cons (pd_var 4) pad_nil))) pad_nil)))))
    (pssd_one (psd_ret pd_bl))
    pssd_nil)
    (pssd_cons (psd_for hp rfl (pid_seq (pd_var 6)) (pgd_tup rfl (pgsd_cons (pgd_name 11 sc_law.nd) (pgsd_cons (pgd_name 12 sc_law.nd) pgsd_nil)) len2)
    (pssd_one (psd_if (ptd_cmp (c_notIn hr) (pd_tup (pad_cons (pd_var 11) (pad_cons (pd_var 4) pad_nil))) (pd_call k_moves_at hr (by decide) tk (pad_cons (pd_var 5) (pad_cons (pd_var 12) pad_nil))))
    (pssd_one (psd_ret pd_bl))
    pssd_nil)))
    (pssd_cons (psd_asg (pd_tup (pad_cons (pd_tup pad_nil) (pad_cons (pd_var 4) pad_nil))) (pgd_tup rfl (pgsd_cons (pgd_name 13 sc_law.nd) (pgsd_cons (pgd_name 14 sc_law.nd) pgsd_nil)) len2))
    (pssd_cons (psd_for hp rfl (pid_range T.n_range (pd_callG 1 k_law_draw hr (by decide) tk (pad_cons pd_int pad_nil))) (pgd_name 7 sc_law.nd)
    (pssd_cons (psd_set 15 sc_law.nd (pd_call k_law_moves hr (by decide) tk (pad_cons (pd_var 2) (pad_cons (pd_var 14) pad_nil))))
    (pssd_one (psd_if (ptd_cmp c_gt (pd_len T.n_len (pd_var 15)) pd_int)
    (pssd_cons (psd_asg (pd_ix (pd_var 15) (pd_callG 1 k_law_draw hr (by decide) tk (pad_cons (pd_len T.n_len (pd_var 15)) pad_nil))) (pgd_tup rfl (pgsd_cons (pgd_name 11 sc_law.nd) (pgsd_cons (pgd_name 14 sc_law.nd) pgsd_nil)) len2))
    (pssd_one (psd_set 13 sc_law.nd (pd_add (pd_var 13) (pd_tup (pad_cons (pd_var 11) pad_nil))))))
    pssd_nil))))
    (pssd_cons (psd_if (PW.pt (pwd_or (ptd_not (ptd_val (pd_call k_law_equal hr (by decide) tk (pad_cons (pd_call k_walked_by hr (by decide) tk (pad_cons (pd_var 2) (pad_cons (pd_var 4) (pad_cons (pd_var 13) pad_nil)))) (pad_cons (pd_var 14) pad_nil))))) (pwd_or1 (ptd_not (ptd_val (pd_call k_law_equal hr (by decide) tk (pad_cons (pd_call k_walked_by hr (by decide) tk (pad_cons (pd_var 5) (pad_cons (pd_var 14) (pad_cons (pd_rev (pd_var 13)) pad_nil)))) (pad_cons (pd_var 4) pad_nil))))))))
    (pssd_one (psd_ret pd_bl))
    pssd_nil)
    (pssd_setLc 8 (psd_setLcO 8 (own := [("k", 17)]) rfl sc_law.nd (sw_true rfl rfl rfl (by decide +kernel)) (pid_range T.n_range (pd_len T.n_len (pd_var 13))) (blkOk_by (own := [("k", 17)]) (N := N_law) (sc := defScope s_law) (by decide +kernel)) (fun _ _ _ _ _ => (pgd_name 17 sc_law.nd)) (fun _ _ _ _ _ => (ptsd_one (ptd_cmp c_ge (pd_ix (pd_var 13) (pd_var 17)) (pd_len T.n_len (pd_ix (pd_var 2) pd_int))))) (fun _ _ _ _ _ => (pd_var 17))) (pssd_cons (psd_if (PW.pt (pwd_and (ptd_cmp (c_eq hr) (pd_len T.n_len (pd_var 8)) pd_int) (pwd_and1 (ptd_cmp (c_ne hr) (pd_ix (pd_var 14) pd_int) (pd_add (pd_ix (pd_var 4) pd_int) (pd_sum rfl T.n_sum (pd_share (po_lc (own := [("move", 11)]) rfl sc_law.nd (pid_seq (pd_var 13)) (blkOk_by (own := [("move", 11)]) (N := N_law) (sc := defScope s_law) (by decide +kernel)) (fun _ _ _ _ _ => (pgd_name 11 sc_law.nd)) (fun _ _ _ _ _ => ptsd_nil) (fun _ _ _ _ _ => (pd_ix (pd_ix (pd_ix (pd_var 2) pd_int) (pd_var 11)) pd_int))))))))))
    (pssd_one (psd_ret pd_bl))
    pssd_nil)
    (pssd_cons (psd_if (ptd_cmp c_gt (pd_var 3) pd_int)
    (pssd_cons (psd_set 11 sc_law.nd (pd_callG 1 k_law_draw hr (by decide) tk (pad_cons (pd_var 3) pad_nil)))
    (pssd_setLc 16 (psd_setLcO 16 (own := [("k", 17), ("there", 12)]) rfl sc_law.nd (sw_true rfl rfl rfl (by decide +kernel)) (pid_seq (pd_call k_law_moves hr (by decide) tk (pad_cons (pd_var 2) (pad_cons (pd_var 14) pad_nil)))) (blkOk_by (own := [("k", 17), ("there", 12)]) (N := N_law) (sc := defScope s_law) (by decide +kernel)) (fun _ _ _ _ _ => (pgd_tup rfl (pgsd_cons (pgd_name 17 sc_law.nd) (pgsd_cons (pgd_name 12 sc_law.nd) pgsd_nil)) len2)) (fun _ _ _ _ _ => (ptsd_one (ptd_cmp (c_eq hr) (pd_var 17) (pd_var 11)))) (fun _ _ _ _ _ => (pd_var 12))) (pssd_cons (psd_if (ptd_not (ptd_val (pd_call k_law_equal hr (by decide) tk (pad_cons (pd_call k_walked_by hr (by decide) tk (pad_cons (pd_var 2) (pad_cons (pd_var 4) (pad_cons (pd_add (pd_var 13) (pd_tup (pad_cons (pd_var 11) pad_nil))) pad_nil)))) (pad_cons (pd_if (ptd_cmp c_gt (pd_len T.n_len (pd_var 16)) pd_int) (pd_ix (pd_var 16) pd_int) pd_non) pad_nil)))))
    (pssd_one (psd_ret pd_bl))
    pssd_nil)
    (pssd_one (psd_if (PW.pt (pwd_and (ptd_cmp (c_eq hr) (pd_len T.n_len (pd_var 16)) pd_int) (pwd_and1 (ptd_notN (pd_call k_walked_by hr (by decide) tk (pad_cons (pd_var 2) (pad_cons (pd_var 4) (pad_cons (pd_add (pd_var 13) (pd_tup (pad_cons (pd_var 11) (pad_cons (pd_var 11) pad_nil)))) pad_nil))))))))
    (pssd_one (psd_ret pd_bl))
    pssd_nil)))))
    pssd_nil)
    (pssd_cons (psd_set 9 sc_law.nd (pd_share (po_lst (pad_cons pd_non (pad_cons (pd_tup (pad_cons pd_int (pad_cons (pd_tup pad_nil) (pad_cons (pd_tup pad_nil) pad_nil)))) (pad_cons (pd_tup (pad_cons pd_int (pad_cons (pd_tup pad_nil) (pad_cons (pd_tup pad_nil) pad_nil)))) (pad_cons (pd_tup (pad_cons pd_int (pad_cons (pd_tup (pad_cons (pd_tup (pad_cons pd_int (pad_cons pd_int (pad_cons pd_int pad_nil)))) pad_nil)) (pad_cons (pd_tup pad_nil) pad_nil)))) (pad_cons (pd_tup (pad_cons pd_int (pad_cons (pd_tup (pad_cons (pd_tup (pad_cons pd_int (pad_cons pd_int (pad_cons pd_int pad_nil)))) pad_nil)) (pad_cons (pd_tup pad_nil) pad_nil)))) (pad_cons (pd_tup (pad_cons pd_int (pad_cons (pd_tup (pad_cons (pd_tup (pad_cons pd_int (pad_cons pd_int pad_nil))) pad_nil)) (pad_cons (pd_tup pad_nil) pad_nil)))) (pad_cons (pd_tup (pad_cons pd_int (pad_cons (pd_tup pad_nil) (pad_cons (pd_tup (pad_cons (pd_tup (pad_cons pd_int (pad_cons pd_int pad_nil))) pad_nil)) pad_nil)))) (pad_cons (pd_tup (pad_cons pd_int (pad_cons (pd_share (po_lst pad_nil)) (pad_cons (pd_tup pad_nil) pad_nil)))) (pad_cons (pd_tup (pad_cons pd_int (pad_cons (pd_tup pad_nil) (pad_cons (pd_share (po_lst pad_nil)) pad_nil)))) (pad_cons (pd_tup (pad_cons pd_int (pad_cons (pd_mul (pd_tup (pad_cons (pd_tup (pad_cons pd_int (pad_cons pd_int (pad_cons pd_int pad_nil)))) pad_nil)) pd_int) (pad_cons (pd_tup pad_nil) pad_nil)))) (pad_cons (pd_tup (pad_cons pd_int (pad_cons (pd_tup pad_nil) (pad_cons (pd_mul (pd_tup (pad_cons (pd_tup (pad_cons pd_int (pad_cons pd_int pad_nil))) pad_nil)) pd_int) pad_nil)))) (pad_cons (pd_tup (pad_cons pd_bl (pad_cons (pd_tup pad_nil) (pad_cons (pd_tup pad_nil) pad_nil)))) (pad_cons (pd_tup (pad_cons pd_int (pad_cons (pd_tup (pad_cons (pd_tup (pad_cons pd_int (pad_cons pd_int (pad_cons pd_bl pad_nil)))) pad_nil)) (pad_cons (pd_tup pad_nil) pad_nil)))) (pad_cons (pd_share (po_lst (pad_cons pd_int (pad_cons (pd_tup pad_nil) (pad_cons (pd_tup pad_nil) pad_nil))))) pad_nil)))))))))))))))))
    (pssd_cons (psd_for hp rfl (pid_seq (pd_var 9)) (pgd_name 10 sc_law.nd)
    (pssd_one (psd_try T.x_0 (by decide) T.g_0 rfl rfl tk (fun W' pn xe tk' hp' => (pssd_cons (psd_expr (pd_call k_moves_at hr (by decide) tk' (pad_cons (pd_var 10) (pad_cons (pd_tup (pad_cons pd_int (pad_cons pd_int pad_nil))) pad_nil))))
    (pssd_one (psd_ret pd_bl)))) (fun _ _ _ => (pssd_one psd_pass)))))
    (pssd_cons (psd_for hp rfl (pid_seq (pd_share (po_lst (pad_cons pd_non (pad_cons (pd_tup (pad_cons (pd_ix (pd_var 2) pd_int) (pad_cons pd_int pad_nil))) (pad_cons (pd_tup (pad_cons pd_int (pad_cons (pd_neg pd_int) pad_nil))) (pad_cons (pd_tup (pad_cons pd_int pad_nil)) (pad_cons (pd_share (po_lst (pad_cons pd_int (pad_cons pd_int pad_nil)))) (pad_cons (pd_tup (pad_cons pd_int (pad_cons pd_bl pad_nil))) (pad_cons (pd_tup (pad_cons (pd_neg pd_int) (pad_cons pd_int pad_nil))) pad_nil)))))))))) (pgd_name 10 sc_law.nd)
    (pssd_one (psd_try T.x_1 (by decide) T.g_1 rfl rfl tk (fun W' pn xe tk' hp' => (pssd_cons (psd_expr (pd_call k_moves_at hr (by decide) tk' (pad_cons (pd_var 2) (pad_cons (pd_var 10) pad_nil))))
    (pssd_one (psd_ret pd_bl)))) (fun _ _ _ => (pssd_one psd_pass)))))
    (pssd_cons (psd_for hp rfl (pid_seq (pd_share (po_lst (pad_cons pd_non (pad_cons (pd_share (po_lst (pad_cons pd_int pad_nil))) (pad_cons (pd_tup (pad_cons (pd_var 3) pad_nil)) (pad_cons (pd_tup (pad_cons (pd_neg pd_int) pad_nil)) (pad_cons (pd_tup (pad_cons pd_bl pad_nil)) (pad_cons pd_str pad_nil))))))))) (pgd_name 10 sc_law.nd)
    (pssd_one (psd_try T.x_2 (by decide) T.g_2 rfl rfl tk (fun W' pn xe tk' hp' => (pssd_cons (psd_expr (pd_call k_walked_by hr (by decide) tk' (pad_cons (pd_var 2) (pad_cons (pd_var 4) (pad_cons (pd_var 10) pad_nil)))))
    (pssd_one (psd_ret pd_bl)))) (fun _ _ _ => (pssd_one psd_pass)))))
    (pssd_one (psd_ret pd_bl)))))))))))))))))))))) hm
end
end K

set_option Elab.async false
set_option linter.all false
set_option maxRecDepth 100000
set_option maxHeartbeats 400000
namespace K
open PySem DL PyProof.Rows
/-! the laws' common helpers: what their mirrors give -/
def mixI (n k : Int) : Int := (((n * 48271 + k * 69621 + 12345) % 2147483647) * (((n * 48271 + k * 69621 + 12345) % 2147483647) / 65536 + 3) + k) % 2147483647
theorem mixed_eq (n k : Int) (g : G) : m_law_mixed [.int n, .int k] g = .ok (.int (mixI n k)) g := by
  have h : (-18446744073709551616 < (n * 48271 + k * 69621 + 12345) % 2147483647 ∧ (n * 48271 + k * 69621 + 12345) % 2147483647 < 18446744073709551616) := by omega
  simp [m_law_mixed, b_law_mixed, h, mixI]
theorem mixed_ex : ∃ mx : Int → Int → Int, ∀ (n k : Int) (g : G), m_law_mixed [.int n, .int k] g = .ok (.int (mx n k)) g := ⟨mixI, mixed_eq⟩
theorem draw1 {ms : List Int} {many m0 : Int} (hm : 0 < many) (j : Nat) (hj : j < ms.length) (h1 : L2.atI (ms.map PyData.int) (j : Int) = some (.int m0)) : m_law_draw [.int many] (some (ms, (j : Int))) = .ok (.int (m0 % many)) (some (ms, (j : Int) + 1)) := by
  simp [m_law_draw, b_law_draw, ixD, h1, hj, hm]
theorem draw2 {ms : List Int} {many m0 : Int} (hm : 0 < many) (mixI : Int → Int → Int) (mixed_eq : ∀ (n k : Int) (g : G), m_law_mixed [.int n, .int k] g = .ok (.int (mixI n k)) g) (j : Nat) (hj : ¬ j < ms.length) (h0 : 0 < ms.length) (h1 : L2.atI (ms.map PyData.int) 0 = some (.int m0)) : m_law_draw [.int many] (some (ms, (j : Int))) = .ok (.int (mixI (mixI (1 + (j : Int) + 1009 * m0) j) 5 / 7 % many)) (some (ms, (j : Int) + 1)) := by
  simp only [m_law_draw, b_law_draw, fnD, seqS, setS_ap, dr1]
  simp [ixD, h1, hj, h0, hm]
  simp [mixed_eq, hm]
theorem draw3 {many : Int} (hm : 0 < many) (mixI : Int → Int → Int) (mixed_eq : ∀ (n k : Int) (g : G), m_law_mixed [.int n, .int k] g = .ok (.int (mixI n k)) g) (i : Int) (hj : decide (i < 0) = false) : m_law_draw [.int many] (some ([], i)) = .ok (.int (mixI (mixI (1 + i) i) 5 / 7 % many)) (some ([], i + 1)) := by
  simp only [m_law_draw, b_law_draw, fnD, seqS, setS_ap, dr1]
  simp [ixD, hj]
  simp [mixed_eq, hm]
/-- the draws' state: the numbers fixed, the count not below nought -/
def Dr (ms : List Int) (g : G) : Prop := ∃ i : Int, 0 ≤ i ∧ g = some (ms, i)
theorem draw_eq {ms : List Int} {g : G} (hg : Dr ms g) {many : Int} (hm : 0 < many) : ∃ r g', 0 ≤ r ∧ r < many ∧ m_law_draw [.int many] g = .ok (.int r) g' ∧ Dr ms g' := by
  obtain ⟨i, hi, rfl⟩ := hg
  obtain ⟨j, rfl⟩ : ∃ j : Nat, i = (j : Int) := ⟨i.toNat, by omega⟩
  obtain ⟨mx, hx⟩ := mixed_ex
  have fin : ∀ a : Int, 0 ≤ a % many ∧ a % many < many := fun a => ⟨Int.emod_nonneg _ (by omega), Int.emod_lt_of_pos _ hm⟩
  by_cases hj : j < ms.length
  · exact ⟨_, some (_, _), (fin _).1, (fin _).2, draw1 hm j hj (L2.atI_nat (by rw [List.getElem?_map, List.getElem?_eq_getElem hj]; rfl)), _, by omega, rfl⟩
  · by_cases h0 : 0 < ms.length
    · exact ⟨_, some (_, _), (fin _).1, (fin _).2, draw2 hm mx hx j hj h0 (L2.atI_nat (j := 0) (by rw [List.getElem?_map, List.getElem?_eq_getElem h0]; rfl)), _, by omega, rfl⟩
    · obtain rfl : ms = [] := List.eq_nil_of_length_eq_zero (by omega)
      exact ⟨_, some (_, _), (fin _).1, (fin _).2, draw3 hm mx hx j (decide_eq_false (by omega)), _, by omega, rfl⟩
/-- data of a depth of at most n -/
def Dep : Nat → PyData → Prop
  | _, .none => True
  | _, .bool _ => True
  | _, .int _ => True
  | _, .str _ => True
  | n + 1, .list ds => ∀ d ∈ ds, Dep n d
  | n + 1, .tuple ds => ∀ d ∈ ds, Dep n d
  | _, _ => False
theorem all_refl {m : Fn} {g : G} {D : PyData} {ds : List PyData} (hD : D = .list ds ∨ D = .tuple ds) (hl : ds.length ≤ 1000000) (h : ∀ d ∈ ds, m [d, d] g = .ok (.bool true) g) : fnD 1 false (b_law_all_equal m) [D, D] g = .ok (.bool true) g := by
  have hlen : lenD D = some (.int ds.length) := by rcases hD with rfl | rfl <;> rfl
  have hix : ∀ k : Nat, (hk : k < ds.length) → ixD D (.int (0 + (k : Int))) = some ds[k] := fun k hk => by
    have e := atI_at (xs := ds) (i := 0 + (k : Int)) (j := k) (by omega) (List.getElem?_eq_getElem hk)
    rcases hD with rfl | rfl <;> exact e
  obtain ⟨ρ', g', h1, rfl, z, rfl⟩ := forD_all (t := nameT 2) (body := ifS (notT (truthD (callD 2 m (consD (opD ixD (varD 0) (varD 2)) (consD (opD ixD (varD 1) (varD 2)) nilD))))) (retS (constD (.bool false))) nextS) (fun k : Nat => PyData.int (0 + (k : Int)))
    (fun _ ρ g' => g' = g ∧ ∃ z, ρ = [.sh D, .sh D, z]) (List.range ds.length) (by
      rintro pre k post e ρ g' ⟨rfl, z, rfl⟩
      have hk : k < ds.length := by
        have : k ∈ List.range ds.length := by rw [e]; simp
        exact List.mem_range.mp this
      refine ⟨_, _, g', rfl, .inl ?_, rfl, .sh (.int (0 + (k : Int))), rfl⟩
      have hi := hix k hk
      have hm := h _ (List.getElem_mem hk)
      simp only [Int.zero_add] at hi
      simp [hi, hm]) (ρ := [.sh D, .sh D, .no]) (g := g) ⟨rfl, .no, rfl⟩
  have hb : (ds.length : Int) ≤ 1000000 ∧ -1000000 ≤ (ds.length : Int) := by omega
  have h2 := h1
  rw [show (List.range ds.length).map (fun k : Nat => PyData.int (0 + (k : Int))) = upFrom 0 ds.length from rfl] at h2
  rcases hD with rfl | rfl <;> simp [b_law_all_equal, hlen, big, hb, h2]
/-- no list or tuple in it is too long -/
def Nar : Nat → PyData → Prop
  | n + 1, .list ds => ds.length ≤ 1000000 ∧ ∀ d ∈ ds, Nar n d
  | n + 1, .tuple ds => ds.length ≤ 1000000 ∧ ∀ d ∈ ds, Nar n d
  | _, .none => True
  | _, .bool _ => True
  | _, .int _ => True
  | _, .str _ => True
  | _, _ => False
theorem eq_step {ds : List PyData} {D : PyData} {m : Fn} {g : G} (hD : D = .list ds ∨ D = .tuple ds) (h : m [D, D] g = .ok (.bool true) g) : fnD 0 false (b_law_equal m) [D, D] g = .ok (.bool true) g := by
  rcases hD with rfl | rfl <;> simp [b_law_equal, isT, eqD, SeqAt.shaped, h]
theorem eq_refl : ∀ (n : Nat) (d : PyData) (g : G) (k : Nat), Nar n d → 2 * n + 1 ≤ k → eqA k [d, d] g = .ok (.bool true) g := by
  intro n
  induction n with
  | zero =>
    intro d g k hd hk
    obtain ⟨k, rfl⟩ : ∃ j, k = j + 1 := ⟨k - 1, by omega⟩
    unfold eqA
    cases d <;> first | (exact False.elim hd) | simp [b_law_equal, isT, eqD, SeqAt.shaped]
  | succ n ih =>
    intro d g k hd hk
    obtain ⟨k, rfl⟩ : ∃ j, k = j + 2 := ⟨k - 2, by omega⟩
    have go : ∀ ds, (d = .list ds ∨ d = .tuple ds) → ds.length ≤ 1000000 → (∀ e ∈ ds, Nar n e) → eqA (k + 2) [d, d] g = .ok (.bool true) g := fun ds hD hl hs => by
      unfold eqA
      refine eq_step hD ?_
      unfold eqB
      exact all_refl hD hl fun e he => ih e g k (hs e he) (by omega)
    cases d with
    | list ds => exact go ds (.inl rfl) hd.1 hd.2
    | tuple ds => exact go ds (.inr rfl) hd.1 hd.2
    | none => unfold eqA; simp [b_law_equal, isT, eqD, SeqAt.shaped]
    | bool b => unfold eqA; simp [b_law_equal, isT, eqD, SeqAt.shaped]
    | int i => unfold eqA; simp [b_law_equal, isT, eqD, SeqAt.shaped]
    | str t => unfold eqA; simp [b_law_equal, isT, eqD, SeqAt.shaped]
    | _ => exact False.elim hd
theorem equal_refl {d : PyData} (g : G) (h : Nar 7 d) : m_law_equal [d, d] g = .ok (.bool true) g := eq_refl 7 d g 16 h (by decide)

end K

set_option Elab.async false
set_option linter.all false
set_option maxRecDepth 100000
set_option maxHeartbeats 400000
namespace K
open PySem DL PyProof.Rows
/-! the script's numbers -/
def NumR (n : Nat) (ρ : Nv) (g : G) : Prop := g = none ∧ ∃ (ms : List Int) (z2 z3 z4 : Sl), ρ = [.sc, .ow (.lst (ms.map PyData.int)), z2, z3, z4] ∧ ms.length ≤ n ∧ ∀ m ∈ ms, 0 ≤ m ∧ m < 1000000
theorem mem_snoc {ms : List Int} {a : Int} (h : ∀ m ∈ ms, 0 ≤ m ∧ m < 1000000) : ∀ m ∈ ms ++ [a % 1000000], 0 ≤ m ∧ m < 1000000 := fun m hm => by
  rcases List.mem_append.mp hm with z | z
  · exact h m z
  · obtain rfl := List.mem_singleton.mp z
    exact ⟨Int.emod_nonneg _ (by decide), Int.emod_lt_of_pos _ (by decide)⟩
theorem pow1018 : (10 : Int) ^ (18 : Int).toNat = 1000000000000000000 := by decide
theorem num_small (mx : Int → Int → Int) (hx : ∀ (n k : Int) (g : G), m_law_mixed [.int n, .int k] g = .ok (.int (mx n k)) g) {c : Int} {ms : List Int} {z2 z3 z4 : Sl} (hc : decide (1000000000000000000 ≤ c) = false) (hl : ms.length ≤ 4000) (hs : ∀ m ∈ ms, 0 ≤ m ∧ m < 1000000) :
    ∃ ρ', b_law_numbers [.sc, .ow (.lst (ms.map PyData.int)), .sh (.int c), z3, z4] none = .nx ρ' none ∧ NumR (ms.length + 60) ρ' none := by
  obtain ⟨ρ', g', h1, rfl, ms', z, rfl, h3, h4⟩ := forD_all (t := nameT 4) (body := appS 1 (opD modD (callD 2 m_law_mixed (consD (callD 2 m_law_mixed (consD (opD modD (varD 2) (constD (.int 2147483647))) (consD (varD 4) nilD))) (consD (opD addD (varD 4) (constD (.int 7))) nilD))) (constD (.int 1000000)))) (fun k : Nat => PyData.int (0 + (k : Int)))
    (fun pre ρ g' => g' = none ∧ ∃ (ms' : List Int) (z : Sl), ρ = [.sc, .ow (.lst (ms'.map PyData.int)), .sh (.int c), z3, z] ∧ ms'.length = ms.length + 1 + pre.length ∧ ∀ m ∈ ms', 0 ≤ m ∧ m < 1000000) (List.range 5) (by
      rintro pre k post e ρ g' ⟨rfl, ms', z, rfl, h1, h2⟩
      have hk : pre.length < 5 := by
        have := congrArg List.length e
        simp at this
        omega
      have hb : ms'.length < 1000000 := by omega
      refine ⟨_, _, none, rfl, .inl ?_, rfl, ms' ++ [mx (mx (c % 2147483647) k) (k + 7) % 1000000], .sh (.int (0 + (k : Int))), rfl, by simp; omega, mem_snoc h2⟩
      simp [hx, big, hb]) (ρ := [.sc, .ow (.lst ((ms ++ [c % 1000000]).map PyData.int)), .sh (.int c), z3, z4]) (g := none) ⟨rfl, _, _, rfl, by simp, mem_snoc hs⟩
  refine ⟨[.sc, .ow (.lst (ms'.map PyData.int)), .sh (.int c), z3, z], ?_, rfl, ms', .sh (.int c), z3, z, rfl, by rw [h3, List.length_range]; omega, h4⟩
  have hb : ms.length < 1000000 := by omega
  have h2 := h1
  rw [show (List.range 5).map (fun k : Nat => PyData.int (0 + (k : Int))) = upFrom 0 5 from rfl] at h2
  rw [List.map_append] at h2
  have h6 : appS 1 (opD modD (varD 2) (constD (.int 1000000))) [.sc, .ow (.lst (ms.map PyData.int)), .sh (.int c), z3, z4] none = .nx [.sc, .ow (.lst (ms.map PyData.int ++ [PyData.int (c % 1000000)])), .sh (.int c), z3, z4] none := by
    simp [big, hb]
  have h7 : boolD (opD (cmpD fun i j => decide (j ≤ i)) (varD 2) (opD powD (constD (.int 10)) (constD (.int 18)))) [.sc, .ow (.lst (ms.map PyData.int)), .sh (.int c), z3, z4] none = .ok false none := by
    simp [pow1018, hc]
  unfold b_law_numbers ifS
  rw [h7]
  show seqS _ _ _ _ = _
  unfold seqS
  rw [h6]
  show forS _ _ _ _ _ = _
  unfold forS
  rw [show rangeD (constD (.int 5)) [.sc, .ow (.lst (ms.map PyData.int ++ [PyData.int (c % 1000000)])), .sh (.int c), z3, z4] none = .ok (upFrom 0 5) none by simp [big]]
  exact h2
theorem num_big {c : Int} {ms : List Int} {z2 z3 z4 : Sl} (hc : decide (1000000000000000000 ≤ c) = true) (hl : ms.length ≤ 4000) (hs : ∀ m ∈ ms, 0 ≤ m ∧ m < 1000000) :
    ∃ ρ', b_law_numbers [.sc, .ow (.lst (ms.map PyData.int)), .sh (.int c), z3, z4] none = .nx ρ' none ∧ NumR (ms.length + 60) ρ' none := by
  obtain ⟨ρ', g', h1, rfl, ms', r, z, rfl, h3, h4⟩ := forD_all (t := nameT 4) (body := (ifS (boolD (opD (cmpD fun i j => decide (j < i)) (varD 3) (constD (.int 0))))
  (seqS (appS 1 (opD modD (varD 3) (constD (.int 1000000))))
  (setS 3 (opD fdivD (varD 3) (constD (.int 1000000)))))
  nextS)) (fun k : Nat => PyData.int (0 + (k : Int)))
    (fun pre ρ g' => g' = none ∧ ∃ (ms' : List Int) (r : Int) (z : Sl), ρ = [.sc, .ow (.lst (ms'.map PyData.int)), .sh (.int c), .sh (.int r), z] ∧ ms'.length ≤ ms.length + pre.length ∧ ∀ m ∈ ms', 0 ≤ m ∧ m < 1000000) (List.range 60) (by
      rintro pre k post e ρ g' ⟨rfl, ms', r, z, rfl, h1, h2⟩
      have hk : pre.length < 60 := by
        have := congrArg List.length e
        simp at this
        omega
      have hb : ms'.length < 1000000 := by omega
      by_cases hr : 0 < r
      · refine ⟨_, _, none, rfl, .inl ?_, rfl, ms' ++ [r % 1000000], r / 1000000, .sh (.int (0 + (k : Int))), rfl, by simp; omega, mem_snoc h2⟩
        simp [big, hb, hr]
      · refine ⟨_, _, none, rfl, .inl ?_, rfl, ms', r, .sh (.int (0 + (k : Int))), rfl, by simp; omega, h2⟩
        simp [big, hb, hr]) (ρ := [.sc, .ow (.lst (ms.map PyData.int)), .sh (.int c), .sh (.int c), z4]) (g := none) ⟨rfl, _, _, _, rfl, by simp, hs⟩
  refine ⟨[.sc, .ow (.lst (ms'.map PyData.int)), .sh (.int c), .sh (.int r), z], ?_, rfl, ms', .sh (.int c), .sh (.int r), z, rfl, by rw [List.length_range] at h3; exact h3, h4⟩
  have h2 := h1
  rw [show (List.range 60).map (fun k : Nat => PyData.int (0 + (k : Int))) = upFrom 0 60 from rfl] at h2
  have h7 : boolD (opD (cmpD fun i j => decide (j ≤ i)) (varD 2) (opD powD (constD (.int 10)) (constD (.int 18)))) [.sc, .ow (.lst (ms.map PyData.int)), .sh (.int c), z3, z4] none = .ok true none := by
    simp [pow1018, hc]
  unfold b_law_numbers ifS
  rw [h7]
  show seqS _ _ _ _ = _
  unfold seqS
  rw [show setS 3 (varD 2) [.sc, .ow (.lst (ms.map PyData.int)), .sh (.int c), z3, z4] none = .nx [.sc, .ow (.lst (ms.map PyData.int)), .sh (.int c), .sh (.int c), z4] none from rfl]
  show forS _ _ _ _ _ = _
  unfold forS
  rw [show rangeD (constD (.int 60)) [.sc, .ow (.lst (ms.map PyData.int)), .sh (.int c), .sh (.int c), z4] none = .ok (upFrom 0 60) none by simp [big]]
  exact h2
theorem numbers_ok (ns : List Int) (hn : ns.length ≤ 63) : ∃ (ms : List Int) (ρ' : Nv), Small ms ∧ forD t_law_numbers b_law_numbers (ns.map PyData.int) (.sc :: .ow (.lst []) :: List.replicate 3 .no) none = .nx ρ' none ∧ ρ'[1]? = some (.ow (.lst (ms.map PyData.int))) := by
  obtain ⟨mx, hx⟩ := mixed_ex
  obtain ⟨ρ', g', h1, rfl, ms, z2, z3, z4, rfl, h2, h3⟩ := forD_all (t := t_law_numbers) (body := b_law_numbers) PyData.int (fun pre ρ g => NumR (60 * pre.length) ρ g) ns (by
    rintro pre c post e ρ g ⟨rfl, ms, z2, z3, z4, rfl, h1, h2⟩
    have hk : pre.length < 63 := by
      have := congrArg List.length e
      simp at this
      omega
    have go : ∃ ρ', b_law_numbers [.sc, .ow (.lst (ms.map PyData.int)), .sh (.int c), z3, z4] none = .nx ρ' none ∧ NumR (ms.length + 60) ρ' none := by
      cases hc : decide (1000000000000000000 ≤ c) with
      | true => exact num_big (z2 := z2) hc (by omega) h2
      | false => exact num_small mx hx (z2 := z2) hc (by omega) h2
    obtain ⟨ρ', h3, _, ms', y2, y3, y4, rfl, h5, h6⟩ := go
    exact ⟨_, _, none, rfl, .inl h3, rfl, ms', y2, y3, y4, rfl, by simp; omega, h6⟩) (ρ := .sc :: .ow (.lst []) :: List.replicate 3 .no) (g := none) ⟨rfl, [], .no, .no, .no, rfl, by simp, fun _ h => nomatch h⟩
  exact ⟨ms, _, ⟨by omega, h3⟩, h1, rfl⟩

end K

set_option Elab.async false
set_option linter.all false
set_option maxRecDepth 100000
set_option maxHeartbeats 400000
namespace K
open PySem DL PyProof.Rows
@[simp] theorem upFrom_len (lo : Int) (n : Nat) : (upFrom lo n).length = n := by simp [upFrom]
/-! walkers as data -/
abbrev St3 := Int × Int × Int
abbrev Pr := Int × Int
def encS (s : St3) : PyData := .tuple [.int s.1, .int s.2.1, .int s.2.2]
def encP (p : Pr) : PyData := .tuple [.int p.1, .int p.2]
def encW (n : Int) (ss : List St3) (ts : List Pr) : PyData := .tuple [.int n, .tuple (ss.map encS), .tuple (ts.map encP)]
def encO : Option Pr → PyData
  | none => .none
  | some p => encP p
structure Wf (n : Int) (ss : List St3) (ts : List Pr) : Prop where
  n1 : 1 ≤ n
  n2 : n ≤ 4
  ls : ss.length ≤ 16
  lt : ts.length ≤ 6
  s : ∀ x ∈ ss, 0 ≤ x.1 ∧ x.1 < n ∧ 0 ≤ x.2.1 ∧ x.2.1 < n ∧ -3 ≤ x.2.2 ∧ x.2.2 ≤ 3
  t : ∀ x ∈ ts, 0 ≤ x.1 ∧ x.1 < n ∧ 0 ≤ x.2 ∧ x.2 < n
@[simp] theorem ix0 (a : PyData) (r : List PyData) : ixD (.tuple (a :: r)) (.int 0) = some a := L2.atI_nat (j := 0) rfl
@[simp] theorem ix1 (a b : PyData) (r : List PyData) : ixD (.tuple (a :: b :: r)) (.int 1) = some b := L2.atI_nat (j := 1) rfl
@[simp] theorem ix2 (a b c : PyData) (r : List PyData) : ixD (.tuple (a :: b :: c :: r)) (.int 2) = some c := L2.atI_nat (j := 2) rfl
@[simp] theorem ix0l (a : PyData) (r : List PyData) : ixD (.list (a :: r)) (.int 0) = some a := L2.atI_nat (j := 0) rfl
theorem room_ok {n a : Int} (g : G) (h : 0 ≤ a ∧ a < n) : m_is_room [.int a, .int n] g = .ok (.bool true) g := by
  simp [m_is_room, b_is_room, m_is_natural, b_is_natural, isT, h]
theorem natural_ok {a : Int} (g : G) (h : 0 ≤ a) : m_is_natural [.int a] g = .ok (.bool true) g := by
  simp [m_is_natural, b_is_natural, isT, h]
theorem step_ok {n : Int} {x : St3} (g : G) (h : 0 ≤ x.1 ∧ x.1 < n ∧ 0 ≤ x.2.1 ∧ x.2.1 < n ∧ -3 ≤ x.2.2 ∧ x.2.2 ≤ 3) : m_is_walker_step [encS x, .int n] g = .ok (.bool true) g := by
  simp [m_is_walker_step, b_is_walker_step, encS, isT, neD, eqD, room_ok, h]
theorem test_ok {n : Int} {x : Pr} (g : G) (h : 0 ≤ x.1 ∧ x.1 < n ∧ 0 ≤ x.2 ∧ x.2 < n) : m_is_walker_test [encP x, .int n] g = .ok (.bool true) g := by
  simp [m_is_walker_test, b_is_walker_test, encP, isT, neD, eqD, room_ok, h]
/-- nothing is kept of items that all pass -/
theorem comp_none {α : Type} {i : Nat} {cond : Te} (enc : α → PyData) (xs : List α) (ρ : Nv) (g : G) (h : ∀ x ∈ xs, cond (ρ.set i (.sh (enc x))) g = .ok false g) : compD (nameT i) cond (varD i) (xs.map enc) ρ g = .ok [] g := by
  have := compD_pure (t := nameT i) (cond := cond) (elt := varD i) enc (fun _ => false) enc xs ρ g fun x hx => ⟨_, rfl, h x hx, fun z => nomatch z⟩
  rw [this]
  rw [show xs.filter (fun _ => false) = [] from List.filter_eq_nil_iff.mpr fun _ _ => by simp]
  rfl
section
variable {n : Int} {ss : List St3} {ts : List Pr}
theorem walker_ok (g : G) (V : Wf n ss ts) : m_is_walker [encW n ss ts] g = .ok (.bool true) g := by
  have h1 := comp_none (i := 1) (cond := notT (truthD (callD 2 m_is_walker_step (consD (varD 1) (consD (opD ixD (varD 0) (constD (.int 0))) nilD))))) encS ss [.sh (encW n ss ts), .no] g fun x hx => by
    simp [encW, step_ok g (V.s x hx)]
  have h2 := comp_none (i := 1) (cond := notT (truthD (callD 2 m_is_walker_test (consD (varD 1) (consD (opD ixD (varD 0) (constD (.int 0))) nilD))))) encP ts [.sh (encW n ss ts), .no] g fun x hx => by
    simp [encW, test_ok g (V.t x hx)]
  have n1 := V.n1
  have n2 : n ≤ 8 := Int.le_trans V.n2 (by decide)
  have n0 : 0 ≤ n := by omega
  have l1 : ¬ 16 < (ss.length : Int) := by have := V.ls; omega
  have l2 : ¬ 6 < (ts.length : Int) := by have := V.lt; omega
  have l3 : ss.length ≤ 1000000 := by have := V.ls; omega
  have l4 : ts.length ≤ 1000000 := by have := V.lt; omega
  simp only [encW] at h1 h2
  simp [m_is_walker, b_is_walker, encW, isT, neD, eqD, natural_ok g n0, n1, n2, l1, l2, l3, l4, big, h1, h2]
  rfl
theorem check_ok (g : G) (V : Wf n ss ts) : m_check_walker [encW n ss ts] g = .ok .none g := by
  simp [m_check_walker, b_check_walker, walker_ok g V]
def Sp2 (n : Int) (p : Pr) : Prop := 0 ≤ p.1 ∧ p.1 < n ∧ 0 ≤ p.2
theorem spot_ok {p : Pr} (g : G) (h : Sp2 n p) : m_is_spot [encW n ss ts, encP p] g = .ok (.bool true) g := by
  simp [m_is_spot, b_is_spot, encW, encP, isT, eqD, room_ok g ⟨h.1, h.2.1⟩, natural_ok g h.2.2]
theorem checkSpot_ok {p : Pr} (g : G) (h : Sp2 n p) : m_check_spot [encW n ss ts, encP p] g = .ok .none g := by
  simp [m_check_spot, b_check_spot, spot_ok g h]
theorem turn_ok (g : G) (V : Wf n ss ts) : m_turn_walker [encW n ss ts] g = .ok (encW n (ss.map fun x => (x.2.1, x.1, -x.2.2)) (ts.map fun x => (x.2, x.1))) g := by
  have l3 : ss.length ≤ 1000000 := by have := V.ls; omega
  have l4 : ts.length ≤ 1000000 := by have := V.lt; omega
  have h1 := compD_pure (t := tupT (consT (nameT 2) (consT (nameT 3) (consT (nameT 4) nilT)))) (cond := yesT) (elt := tupD (consD (varD 3) (consD (varD 2) (consD (unD negD (varD 4)) nilD)))) encS (fun _ => true) (fun x => encS (x.2.1, x.1, -x.2.2)) ss [.sh (encW n ss ts), .no, .no, .no, .no] g fun x hx => ⟨[.sh (encW n ss ts), .no, .sh (.int x.1), .sh (.int x.2.1), .sh (.int x.2.2)], by simp [encS], rfl, fun _ => by simp [encS]⟩
  have h2 := compD_pure (t := tupT (consT (nameT 2) (consT (nameT 3) nilT))) (cond := yesT) (elt := tupD (consD (varD 3) (consD (varD 2) nilD))) encP (fun _ => true) (fun x => encP (x.2, x.1)) ts [.sh (encW n ss ts), .sh (.tuple (ss.map fun x => encS (x.2.1, x.1, -x.2.2))), .no, .no, .no] g fun x hx => ⟨[.sh (encW n ss ts), .sh (.tuple (ss.map fun x => encS (x.2.1, x.1, -x.2.2))), .sh (.int x.1), .sh (.int x.2), .no], by simp [encP], rfl, fun _ => by simp [encP]⟩
  rw [List.filter_eq_self.mpr fun _ _ => rfl] at h1 h2
  simp only [encW] at h1 h2 ⊢
  simp [m_turn_walker, b_turn_walker, l3, l4, big, h1, h2, Function.comp_def]
theorem lawTurned_ok (g : G) (V : Wf n ss ts) : m_law_turned [encW n ss ts] g = .ok (encW n (ss.map fun x => (x.2.1, x.1, -x.2.2)) (ts.map fun x => (x.2, x.1))) g := by
  have l3 : ss.length ≤ 1000000 := by have := V.ls; omega
  have l4 : ts.length ≤ 1000000 := by have := V.lt; omega
  have h1 := compD_pure (t := tupT (consT (nameT 1) (consT (nameT 2) (consT (nameT 3) nilT)))) (cond := yesT) (elt := tupD (consD (varD 2) (consD (varD 1) (consD (unD negD (varD 3)) nilD)))) encS (fun _ => true) (fun x => encS (x.2.1, x.1, -x.2.2)) ss [.sh (encW n ss ts), .no, .no, .no] g fun x hx => ⟨[.sh (encW n ss ts), .sh (.int x.1), .sh (.int x.2.1), .sh (.int x.2.2)], by simp [encS], rfl, fun _ => by simp [encS]⟩
  have h2 := compD_pure (t := tupT (consT (nameT 1) (consT (nameT 2) nilT))) (cond := yesT) (elt := tupD (consD (varD 2) (consD (varD 1) nilD))) encP (fun _ => true) (fun x => encP (x.2, x.1)) ts [.sh (encW n ss ts), .no, .no, .no] g fun x hx => ⟨[.sh (encW n ss ts), .sh (.int x.1), .sh (.int x.2), .no], by simp [encP], rfl, fun _ => by simp [encP]⟩
  rw [List.filter_eq_self.mpr fun _ _ => rfl] at h1 h2
  simp only [encW] at h1 h2 ⊢
  simp [m_law_turned, b_law_turned, l3, l4, big, h1, h2, Function.comp_def]
theorem turned_ok (g : G) (V : Wf n ss ts) : m_turned_walker [encW n ss ts] g = .ok (encW n (ss.map fun x => (x.2.1, x.1, -x.2.2)) (ts.map fun x => (x.2, x.1))) g := by
  simp [m_turned_walker, b_turned_walker, check_ok g V, turn_ok g V]
end
/-! where moves lead -/
def stepO (p : Pr) (s : St3) : Option Pr := if s.1 = p.1 ∧ 0 ≤ p.2 + s.2.2 then some (s.2.1, p.2 + s.2.2) else none
def testO (p : Pr) (t : Pr) : Option Pr := if p = (t.1, 0) then some (t.2, 0) else none
def opts (ss : List St3) (ts : List Pr) (p : Pr) : List (Option Pr) := ss.map (stepO p) ++ ts.map (testO p)
def movesOf : Nat → List (Option Pr) → List (Nat × Pr)
  | _, [] => []
  | k, none :: r => movesOf (k + 1) r
  | k, some q :: r => (k, q) :: movesOf (k + 1) r
def encM (m : Nat × Pr) : PyData := .tuple [.int m.1, encP m.2]
theorem movesOf_append : ∀ (k : Nat) (xs ys : List (Option Pr)), movesOf k (xs ++ ys) = movesOf k xs ++ movesOf (k + xs.length) ys
  | k, [], ys => rfl
  | k, none :: xs, ys => by
    show movesOf (k + 1) (xs ++ ys) = movesOf (k + 1) xs ++ _
    rw [movesOf_append (k + 1) xs ys, List.length_cons, Nat.add_assoc, Nat.add_comm 1]
  | k, some q :: xs, ys => by
    show (k, q) :: movesOf (k + 1) (xs ++ ys) = (k, q) :: (movesOf (k + 1) xs ++ _)
    rw [movesOf_append (k + 1) xs ys, List.length_cons, Nat.add_assoc, Nat.add_comm 1]
theorem mem_movesOf : ∀ (l : List (Option Pr)) (k : Nat) (m : Nat × Pr), m ∈ movesOf k l ↔ k ≤ m.1 ∧ l[m.1 - k]? = some (some m.2)
  | [], k, m => by simp [movesOf]
  | o :: r, k, m => by
    have hi := mem_movesOf r (k + 1) m
    have key : (k + 1 ≤ m.1 ∧ r[m.1 - (k + 1)]? = some (some m.2)) ↔ (k + 1 ≤ m.1 ∧ (o :: r)[m.1 - k]? = some (some m.2)) := by
      constructor
      · rintro ⟨h1, h2⟩
        refine ⟨h1, ?_⟩
        rw [show m.1 - k = (m.1 - (k + 1)) + 1 by omega, List.getElem?_cons_succ]
        exact h2
      · rintro ⟨h1, h2⟩
        refine ⟨h1, ?_⟩
        rw [show m.1 - k = (m.1 - (k + 1)) + 1 by omega, List.getElem?_cons_succ] at h2
        exact h2
    cases o with
    | none =>
      show m ∈ movesOf (k + 1) r ↔ _
      rw [hi, key]
      constructor
      · rintro ⟨h1, h2⟩; exact ⟨by omega, h2⟩
      · rintro ⟨h1, h2⟩
        refine ⟨?_, h2⟩
        rcases Nat.lt_or_ge k m.1 with z | z
        · exact z
        · rw [show m.1 - k = 0 by omega] at h2
          simp at h2
    | some q =>
      show m ∈ (k, q) :: movesOf (k + 1) r ↔ _
      rw [List.mem_cons, hi, key]
      constructor
      · rintro (rfl | ⟨h1, h2⟩)
        · exact ⟨Nat.le_refl _, by simp⟩
        · exact ⟨by omega, h2⟩
      · rintro ⟨h1, h2⟩
        rcases Nat.lt_or_ge k m.1 with z | z
        · exact .inr ⟨z, h2⟩
        · left
          rw [show m.1 - k = 0 by omega] at h2
          simp at h2
          rcases m with ⟨a, b⟩
          simp at h2 z h1
          rw [h2, show a = k by omega]
theorem len_movesOf : ∀ (l : List (Option Pr)) (k : Nat), (movesOf k l).length ≤ l.length
  | [], k => Nat.le_refl _
  | none :: r, k => Nat.le_succ_of_le (len_movesOf r (k + 1))
  | some q :: r, k => Nat.succ_le_succ (len_movesOf r (k + 1))
@[simp] theorem encP_eqv (p q : Pr) : eqD (encP p) (encP q) = some (.bool (decide (p = q))) := by
  rcases p with ⟨a, b⟩
  rcases q with ⟨c, d⟩
  have h1 : ∀ x y : Int, SeqAt.shaped (encP (x, y)) = true := fun x y => rfl
  show (if SeqAt.shaped (encP (a, b)) = true ∧ SeqAt.shaped (encP (c, d)) = true then some (PyData.bool (PyData.eqv (encP (a, b)) (encP (c, d)))) else none) = _
  rw [if_pos ⟨h1 _ _, h1 _ _⟩]
  congr 2
  simp [encP, PyData.eqv, PyData.eqvAll, Prod.ext_iff]
  rfl
section
variable {n : Int} {ss : List St3} {ts : List Pr}
theorem ix_map {α : Type} (enc : α → PyData) (xs : List α) (k : Nat) (x : α) (h : xs[k]? = some x) : ixD (.tuple (xs.map enc)) (.int (k : Int)) = some (enc x) := L2.atI_nat (by rw [List.getElem?_map, h]; rfl)
theorem led_ok {p : Pr} {k : Nat} {o : Option Pr} (g : G) (h : (opts ss ts p)[k]? = some o) : m_led_from [encW n ss ts, encP p, .int (k : Int)] g = .ok (encO o) g := by
  unfold opts at h
  by_cases hk : k < ss.length
  · rw [List.getElem?_append_left (by rw [List.length_map]; exact hk), List.getElem?_map, List.getElem?_eq_getElem hk] at h
    have e := ix_map encS ss k ss[k] (List.getElem?_eq_getElem hk)
    generalize ss[k] = s at h e
    obtain rfl : stepO p s = o := Option.some.inj h
    by_cases h1 : s.1 = p.1
    · by_cases h2 : 0 ≤ p.2 + s.2.2
      · have h3 : ¬ p.2 + s.2.2 < 0 := by omega
        simp [m_led_from, b_led_from, encW, hk, e, encS, encP, neD, eqD, h1, h3, stepO, h2, encO]
      · have h3 : p.2 + s.2.2 < 0 := by omega
        simp [m_led_from, b_led_from, encW, hk, e, encS, encP, neD, eqD, h1, h3, stepO, h2, encO]
    · simp [m_led_from, b_led_from, encW, hk, e, encS, encP, neD, eqD, h1, stepO, encO]
  · rw [List.getElem?_append_right (by rw [List.length_map]; omega), List.length_map, List.getElem?_map] at h
    obtain ⟨t, h4, rfl⟩ := Option.map_eq_some_iff.mp h
    have e := ix_map encP ts _ t h4
    rw [show (((k - ss.length : Nat)) : Int) = (k : Int) - (ss.length : Int) by omega] at e
    have e2 : eqD (.tuple [.int p.1, .int p.2]) (.tuple [.int t.1, .int 0]) = some (.bool (decide (p = (t.1, 0)))) := encP_eqv p (t.1, 0)
    by_cases h1 : p = (t.1, 0)
    · rw [decide_eq_true h1] at e2
      have e3 : testO p t = some (t.2, 0) := if_pos h1
      rw [e3]
      simp [m_led_from, b_led_from, encW, hk, e, encP, e2, encO]
    · rw [decide_eq_false h1] at e2
      have e3 : testO p t = none := if_neg h1
      rw [e3]
      simp [m_led_from, b_led_from, encW, hk, e, encP, e2, encO]
theorem enum_filter : ∀ (l : List (Option Pr)) (k : Nat) (f : Nat → Option Pr), (∀ i, (h : i < l.length) → f (k + i) = l[i]) → (((List.range l.length).map (k + ·)).filter fun i : Nat => (f i).isSome).map (fun i : Nat => PyData.tuple [.int (i : Int), encO (f i)]) = (movesOf k l).map encM
  | [], k, f, h => rfl
  | o :: r, k, f, h => by
    have ih := enum_filter r (k + 1) f fun i hi => by
      have := h (i + 1) (by simp; omega)
      rw [show k + 1 + i = k + (i + 1) by omega, this]
      simp
    have h0 : f k = o := h 0 (Nat.zero_lt_succ _)
    rw [List.length_cons, List.range_succ_eq_map, List.map_cons, List.map_map]
    have e : ((List.range r.length).map ((k + ·) ∘ Nat.succ)) = (List.range r.length).map (k + 1 + ·) := List.map_congr_left fun i _ => by simp; omega
    rw [e, show k + 0 = k from rfl]
    cases o with
    | none =>
      rw [List.filter_cons_of_neg (by rw [h0]; simp)]
      exact ih
    | some q =>
      rw [List.filter_cons_of_pos (by rw [h0]; rfl), List.map_cons, ih, h0]
      rfl
theorem all_ok {p : Pr} (g : G) (V : Wf n ss ts) : m_all_moves [encW n ss ts, encP p] g = .ok (.list ((movesOf 0 (opts ss ts p)).map encM)) g := by
  have L : (opts ss ts p).length = ss.length + ts.length := by simp [opts]
  have h1 := compD_pure (t := nameT 3) (cond := yesT) (elt := tupD (consD (varD 3) (consD (callD 3 m_led_from (consD (varD 0) (consD (varD 1) (consD (varD 3) nilD)))) nilD))) (fun k : Nat => PyData.int (0 + (k : Int))) (fun _ => true) (fun k : Nat => .tuple [.int (k : Int), encO ((opts ss ts p)[k]?.getD none)]) (List.range (ss.length + ts.length)) [.sh (encW n ss ts), .sh (encP p), .no, .no, .no] g fun k hk => ⟨_, rfl, rfl, fun _ => by
    have hk2 : k < (opts ss ts p).length := by rw [L]; exact List.mem_range.mp hk
    have := led_ok (n := n) g (List.getElem?_eq_getElem hk2)
    simp [this, List.getElem?_eq_getElem hk2]⟩
  rw [List.filter_eq_self.mpr fun _ _ => rfl] at h1
  have h2 := compD_pure (t := nameT 4) (cond := boolD (unD notNoneD (opD ixD (varD 4) (constD (.int 1))))) (elt := varD 4) (fun k : Nat => PyData.tuple [.int (k : Int), encO ((opts ss ts p)[k]?.getD none)]) (fun k => ((opts ss ts p)[k]?.getD none).isSome) (fun k : Nat => .tuple [.int (k : Int), encO ((opts ss ts p)[k]?.getD none)]) (List.range (ss.length + ts.length)) [.sh (encW n ss ts), .sh (encP p), .sh (.list ((List.range (ss.length + ts.length)).map fun k : Nat => PyData.tuple [.int (k : Int), encO ((opts ss ts p)[k]?.getD none)])), .no, .no] g fun k hk => ⟨_, rfl, by
      cases hz : (opts ss ts p)[k]?.getD none <;> simp [encO, encP], fun _ => by simp⟩
  have h3 := enum_filter (opts ss ts p) 0 (fun k => (opts ss ts p)[k]?.getD none) fun i hi => by simp [List.getElem?_eq_getElem hi]
  rw [L] at h3
  simp only [Nat.zero_add, List.map_id'] at h3
  rw [h3] at h2
  have h4 : m_count_of_moves [encW n ss ts] g = .ok (.int ((ss.length + ts.length : Nat) : Int)) g := by
    simp [m_count_of_moves, b_count_of_moves, encW]
  have hb : ((ss.length + ts.length : Nat) : Int) ≤ 1000000 ∧ -1000000 ≤ ((ss.length + ts.length : Nat) : Int) := by
    have := V.ls; have := V.lt; omega
  have hb2 : ss.length + ts.length ≤ 1000000 := by omega
  rw [← upFrom_map] at h1
  simp [m_all_moves, b_all_moves, h4, -Int.natCast_add]
  simp [hb, hb2, big, h1, h2, -Int.natCast_add]
theorem moves_ok {p : Pr} (g : G) (V : Wf n ss ts) (h : Sp2 n p) : m_moves_at [encW n ss ts, encP p] g = .ok (.list ((movesOf 0 (opts ss ts p)).map encM)) g := by
  simp [m_moves_at, b_moves_at, check_ok g V, checkSpot_ok g h, all_ok g V]
end
end K

set_option Elab.async false
set_option linter.all false
set_option maxRecDepth 100000
set_option maxHeartbeats 400000
namespace K
open PySem DL PyProof.Rows
section
variable {n : Int} {ss : List St3} {ts : List Pr}
theorem opts_len (p : Pr) : (opts ss ts p).length = ss.length + ts.length := by simp [opts]
theorem take_snoc {α : Type} (l : List α) (k : Nat) (x : α) (h : l[k]? = some x) : l.take (k + 1) = l.take k ++ [x] := by
  rw [List.take_succ, h]; rfl
def oneM (k : Nat) : Option Pr → List (Nat × Pr)
  | none => []
  | some q => [(k, q)]
theorem movesOf_snoc (l : List (Option Pr)) (k : Nat) (o : Option Pr) (h : l[k]? = some o) : movesOf 0 (l.take (k + 1)) = movesOf 0 (l.take k) ++ oneM k o := by
  have hk : k < l.length := (List.getElem?_eq_some_iff.mp h).1
  rw [take_snoc l k o h, movesOf_append, List.length_take, Nat.min_eq_left (Nat.le_of_lt hk), Nat.zero_add]
  cases o <;> rfl
theorem range_pre {m k : Nat} {pre post : List Nat} (e : List.range m = pre ++ k :: post) : pre.length = k ∧ k < m := by
  have h1 : (List.range m)[pre.length]? = some k := by rw [e]; simp
  obtain ⟨h2, h3⟩ := List.getElem?_eq_some_iff.mp h1
  rw [List.getElem_range] at h3
  rw [List.length_range] at h2
  exact ⟨h3, by omega⟩
theorem lawMoves_ok {p : Pr} (g : G) (V : Wf n ss ts) : m_law_moves [encW n ss ts, encP p] g = .ok (.list ((movesOf 0 (opts ss ts p)).map encM)) g := by
  have lb := V.ls
  have lb2 := V.lt
  obtain ⟨_, g1, h1, hg1, z, rfl⟩ := forD_all (t := nameT 4) (body := ifS (andT (boolD (opD eqD (opD ixD (opD ixD (varD 3) (varD 4)) (constD (.int 0))) (opD ixD (varD 1) (constD (.int 0))))) (boolD (opD (cmpD fun i j => decide (j ≤ i)) (opD addD (opD ixD (varD 1) (constD (.int 1))) (opD ixD (opD ixD (varD 3) (varD 4)) (constD (.int 2)))) (constD (.int 0)))))
  (appS 2 (tupD (consD (varD 4) (consD (tupD (consD (opD ixD (opD ixD (varD 3) (varD 4)) (constD (.int 1))) (consD (opD addD (opD ixD (varD 1) (constD (.int 1))) (opD ixD (opD ixD (varD 3) (varD 4)) (constD (.int 2)))) nilD))) nilD))))
  nextS) (fun k : Nat => PyData.int (0 + (k : Int)))
    (fun pre ρ g' => g' = g ∧ ∃ z, ρ = [.sh (encW n ss ts), .sh (encP p), .ow (.lst ((movesOf 0 ((opts ss ts p).take pre.length)).map encM)), .sh (.tuple (ss.map encS)), z]) (List.range ss.length) (by
      rintro pre k post e ρ g' ⟨rfl, z, rfl⟩
      obtain ⟨e1, hk⟩ := range_pre e
      have ho : (opts ss ts p)[k]? = some (stepO p ss[k]) := by
        unfold opts
        rw [List.getElem?_append_left (by rw [List.length_map]; exact hk), List.getElem?_map, List.getElem?_eq_getElem hk]
        rfl
      have hs := movesOf_snoc _ _ _ ho
      have e2 := ix_map encS ss k ss[k] (List.getElem?_eq_getElem hk)
      have hl : (movesOf 0 ((opts ss ts p).take k)).length < 1000000 := by
        have h1 := len_movesOf ((opts ss ts p).take k) 0
        rw [List.length_take, opts_len] at h1
        omega
      rw [e1]
      refine ⟨_, [.sh (encW n ss ts), .sh (encP p), .ow (.lst ((movesOf 0 ((opts ss ts p).take (pre ++ [k]).length)).map encM)), .sh (.tuple (ss.map encS)), .sh (.int (0 + (k : Int)))], g', rfl, .inl ?_, rfl, _, rfl⟩
      rw [List.length_append, e1, show [k].length = 1 from rfl, hs]
      generalize ss[k] = s at e2
      by_cases h1 : s.1 = p.1
      · by_cases h2 : 0 ≤ p.2 + s.2.2
        · simp [e2, encS, encP, eqD, h1, h2, stepO, oneM, big, hl, encM]
        · simp [e2, encS, encP, eqD, h1, h2, stepO, oneM]
      · simp [e2, encS, encP, eqD, h1, stepO, oneM]) (ρ := [.sh (encW n ss ts), .sh (encP p), .ow (.lst []), .sh (.tuple (ss.map encS)), .no]) (g := g) ⟨rfl, _, rfl⟩
  obtain ⟨_, g2, h2, hg2, z2, rfl⟩ := forD_all (t := nameT 4) (body := ifS (boolD (opD eqD (varD 1) (tupD (consD (opD ixD (opD ixD (opD ixD (varD 0) (constD (.int 2))) (varD 4)) (constD (.int 0))) (consD (constD (.int 0)) nilD)))))
  (appS 2 (tupD (consD (opD addD (unD lenD (varD 3)) (varD 4)) (consD (tupD (consD (opD ixD (opD ixD (opD ixD (varD 0) (constD (.int 2))) (varD 4)) (constD (.int 1))) (consD (constD (.int 0)) nilD))) nilD))))
  nextS) (fun k : Nat => PyData.int (0 + (k : Int)))
    (fun pre ρ g' => g' = g ∧ ∃ z, ρ = [.sh (encW n ss ts), .sh (encP p), .ow (.lst ((movesOf 0 ((opts ss ts p).take (ss.length + pre.length))).map encM)), .sh (.tuple (ss.map encS)), z]) (List.range ts.length) (by
      rintro pre k post e ρ g' ⟨rfl, z, rfl⟩
      obtain ⟨e1, hk⟩ := range_pre e
      have ho : (opts ss ts p)[ss.length + k]? = some (testO p ts[k]) := by
        unfold opts
        rw [List.getElem?_append_right (by rw [List.length_map]; omega), List.length_map, List.getElem?_map, show ss.length + k - ss.length = k by omega, List.getElem?_eq_getElem hk]
        rfl
      have hs := movesOf_snoc _ _ _ ho
      have e2 := ix_map encP ts k ts[k] (List.getElem?_eq_getElem hk)
      have hl : (movesOf 0 ((opts ss ts p).take (ss.length + k))).length < 1000000 := by
        have h1 := len_movesOf ((opts ss ts p).take (ss.length + k)) 0
        rw [List.length_take, opts_len] at h1
        omega
      rw [e1]
      refine ⟨_, [.sh (encW n ss ts), .sh (encP p), .ow (.lst ((movesOf 0 ((opts ss ts p).take (ss.length + (pre ++ [k]).length))).map encM)), .sh (.tuple (ss.map encS)), .sh (.int (0 + (k : Int)))], g', rfl, .inl ?_, rfl, _, rfl⟩
      rw [List.length_append, e1, show [k].length = 1 from rfl, ← Nat.add_assoc, hs]
      generalize ts[k] = t at e2
      have e3 : eqD (encP p) (.tuple [.int t.1, .int 0]) = some (.bool (decide (p = (t.1, 0)))) := encP_eqv p (t.1, 0)
      have e4 : encP t = .tuple [.int t.1, .int t.2] := rfl
      rw [e4] at e2
      by_cases h1 : p = (t.1, 0)
      · rw [decide_eq_true h1] at e3
        have e5 : testO p t = some (t.2, 0) := if_pos h1
        rw [e5]
        simp [encW, e2, e3, oneM, big, hl, encM]
        rfl
      · rw [decide_eq_false h1] at e3
        have e5 : testO p t = none := if_neg h1
        rw [e5]
        simp [encW, e2, e3, oneM]) (ρ := [.sh (encW n ss ts), .sh (encP p), .ow (.lst ((movesOf 0 ((opts ss ts p).take ss.length)).map encM)), .sh (.tuple (ss.map encS)), z]) (g := g) ⟨rfl, _, rfl⟩
  rw [hg1] at h1
  rw [hg2] at h2
  rw [← upFrom_map] at h1 h2
  rw [List.length_range] at h1 h2
  rw [show (opts ss ts p).take (ss.length + ts.length) = opts ss ts p by rw [← opts_len (ss := ss) (ts := ts) p, List.take_length]] at h2
  have hb : ((ss.length : Nat) : Int) ≤ 1000000 ∧ -1000000 ≤ ((ss.length : Nat) : Int) := by omega
  have hb2 : ((ts.length : Nat) : Int) ≤ 1000000 ∧ -1000000 ≤ ((ts.length : Nat) : Int) := by omega
  simp only [encW] at h1 h2
  simp [m_law_moves, b_law_moves, encW, hb, hb2, big, h1, h2]
end
end K

set_option Elab.async false
set_option linter.all false
set_option maxRecDepth 100000
set_option maxHeartbeats 400000
namespace K
open PySem DL PyProof.Rows
section
variable {n : Int} {ss : List St3} {ts : List Pr}
/-! the walker that is drawn -/
theorem lawWalker_ok {ms : List Int} {g : G} (hg : Dr ms g) : ∃ n ss ts g', Wf n ss ts ∧ Dr ms g' ∧ m_law_walker [.int 4] g = .ok (encW n ss ts) g' := by
  obtain ⟨r, g1, r0, r1, hd1, hg1⟩ := draw_eq hg (many := 4) (by decide)
  obtain ⟨c, g2, c0, c1, hd2, hg2⟩ := draw_eq hg1 (many := 2 + 2 * (1 + r)) (by omega)
  obtain ⟨_, g3, h1, hg3, ss, rfl, l1, v1⟩ := compD_all (t := nameT 4) (cond := yesT) (elt := tupD (consD (callG 2 0 m_law_draw (consD (varD 2) nilD)) (consD (callG 2 0 m_law_draw (consD (varD 2) nilD)) (consD (opD subD (callG 2 0 m_law_draw (consD (constD (.int 7)) nilD)) (constD (.int 3))) nilD)))) (fun k : Nat => PyData.int (0 + (k : Int)))
    (fun pre ys g => Dr ms g ∧ ∃ ss : List St3, ys = ss.map encS ∧ ss.length = pre.length ∧ ∀ x ∈ ss, 0 ≤ x.1 ∧ x.1 < 1 + r ∧ 0 ≤ x.2.1 ∧ x.2.1 < 1 + r ∧ -3 ≤ x.2.2 ∧ x.2.2 ≤ 3) (List.range c.toNat) [.dr, .sh (.int 4), .sh (.int (1 + r)), .no, .no] (by
      rintro pre k post e ys g ⟨hg, ss, rfl, l, v⟩
      obtain ⟨a, ga, a0, a1, ha, hga⟩ := draw_eq hg (many := 1 + r) (by omega)
      obtain ⟨b, gb, b0, b1, hb, hgb⟩ := draw_eq hga (many := 1 + r) (by omega)
      obtain ⟨d, gd, d0, d1, hd, hgd⟩ := draw_eq hgb (many := 7) (by decide)
      refine ⟨_, g, rfl, .inr ⟨rfl, encS (a, b, d - 3), gd, ?_, hgd, ss ++ [(a, b, d - 3)], by simp, by simp [l], ?_⟩⟩
      · simp [ha, hb, hd, encS]
      · intro x hx
        rcases List.mem_append.mp hx with z | z
        · exact v x z
        · obtain rfl := List.mem_singleton.mp z
          exact ⟨a0, a1, b0, b1, by show -3 ≤ d - 3; omega, by show d - 3 ≤ 3; omega⟩) (g := g2) ⟨hg2, [], rfl, rfl, fun _ h => nomatch h⟩
  obtain ⟨c', g4, c0', c1', hd4, hg4⟩ := draw_eq hg3 (many := 3) (by decide)
  obtain ⟨_, g5, h2, hg5, ts, rfl, l2, v2⟩ := compD_all (t := nameT 4) (cond := yesT) (elt := tupD (consD (callG 2 0 m_law_draw (consD (varD 2) nilD)) (consD (callG 2 0 m_law_draw (consD (varD 2) nilD)) nilD))) (fun k : Nat => PyData.int (0 + (k : Int)))
    (fun pre ys g => Dr ms g ∧ ∃ ss : List Pr, ys = ss.map encP ∧ ss.length = pre.length ∧ ∀ x ∈ ss, 0 ≤ x.1 ∧ x.1 < 1 + r ∧ 0 ≤ x.2 ∧ x.2 < 1 + r) (List.range c'.toNat) [.dr, .sh (.int 4), .sh (.int (1 + r)), .sh (.tuple (ss.map encS)), .no] (by
      rintro pre k post e ys g ⟨hg, ss, rfl, l, v⟩
      obtain ⟨a, ga, a0, a1, ha, hga⟩ := draw_eq hg (many := 1 + r) (by omega)
      obtain ⟨b, gb, b0, b1, hb, hgb⟩ := draw_eq hga (many := 1 + r) (by omega)
      refine ⟨_, g, rfl, .inr ⟨rfl, encP (a, b), gb, ?_, hgb, ss ++ [(a, b)], by simp, by simp [l], ?_⟩⟩
      · simp [ha, hb, encP]
      · intro x hx
        rcases List.mem_append.mp hx with z | z
        · exact v x z
        · obtain rfl := List.mem_singleton.mp z
          exact ⟨a0, a1, b0, b1⟩) (g := g4) ⟨hg4, [], rfl, rfl, fun _ h => nomatch h⟩
  rw [List.length_range] at l1 l2
  refine ⟨1 + r, ss, ts, g5, ⟨by omega, by omega, by omega, by omega, v1, v2⟩, hg5, ?_⟩
  rw [← upFrom_map] at h1 h2
  have b1 : c ≤ 1000000 ∧ -1000000 ≤ c := by omega
  have b2 : c' ≤ 1000000 ∧ -1000000 ≤ c' := by omega
  have b3 : c ≤ 1000000 := by omega
  have b4 : c' ≤ 1000000 := by omega
  simp [m_law_walker, b_law_walker, hd1, hd2, b1, big, h1, hd4, b2, h2, b3, b4, encW]
/-! words -/
def lead (ss : List St3) (ts : List Pr) : Option Pr → Nat → Option Pr
  | none, _ => none
  | some p, k => (opts ss ts p)[k]?.getD none
theorem along_ok {o : Option Pr} (g : G) (w : List Nat) (hw : ∀ k ∈ w, k < ss.length + ts.length) : m_led_along [encW n ss ts, encO o, .tuple (w.map fun k : Nat => PyData.int (k : Int))] g = .ok (encO (w.foldl (lead ss ts) o)) g := by
  obtain ⟨_, g1, h1, hg1, z, rfl⟩ := forD_all (t := nameT 3) (body := ifS (boolD (unD notNoneD (varD 1)))
  (setS 1 (callD 3 m_led_from (consD (varD 0) (consD (varD 1) (consD (varD 3) nilD)))))
  nextS) (fun k : Nat => PyData.int (k : Int))
    (fun pre ρ g' => g' = g ∧ ∃ z, ρ = [.sh (encW n ss ts), .sh (encO (pre.foldl (lead ss ts) o)), .sh (.tuple (w.map fun k : Nat => PyData.int (k : Int))), z]) w (by
      rintro pre k post e ρ g' ⟨rfl, z, rfl⟩
      have hk : k < ss.length + ts.length := hw k (by rw [e]; simp)
      refine ⟨_, [.sh (encW n ss ts), .sh (encO ((pre ++ [k]).foldl (lead ss ts) o)), .sh (.tuple (w.map fun k : Nat => PyData.int (k : Int))), .sh (.int (k : Int))], g', rfl, .inl ?_, rfl, _, rfl⟩
      rw [List.foldl_append]
      cases pre.foldl (lead ss ts) o with
      | none => simp [encO, lead]
      | some p =>
        have := led_ok (n := n) g' (List.getElem?_eq_getElem (l := opts ss ts p) (i := k) (by rw [opts_len]; exact hk))
        simp [encO, lead, encP] at this ⊢
        simp [this, List.getElem?_eq_getElem (l := opts ss ts p) (i := k) (by rw [opts_len]; exact hk)]) (ρ := [.sh (encW n ss ts), .sh (encO o), .sh (.tuple (w.map fun k : Nat => PyData.int (k : Int))), .no]) (g := g) ⟨rfl, _, rfl⟩
  rw [hg1] at h1
  simp [m_led_along, b_led_along, h1]
theorem word_ok (g : G) (V : Wf n ss ts) (w : List Nat) (hl : w.length ≤ 1000) (hw : ∀ k ∈ w, k < ss.length + ts.length) : m_is_word_of [encW n ss ts, .tuple (w.map fun k : Nat => PyData.int (k : Int))] g = .ok (.bool true) g := by
  have h4 : m_count_of_moves [encW n ss ts] g = .ok (.int ((ss.length + ts.length : Nat) : Int)) g := by
    simp [m_count_of_moves, b_count_of_moves, encW]
  have h1 := comp_none (i := 2) (cond := orT (notT (truthD (callD 1 m_is_natural (consD (varD 2) nilD)))) (boolD (opD (cmpD fun i j => decide (j ≤ i)) (varD 2) (callD 1 m_count_of_moves (consD (varD 0) nilD))))) (fun k : Nat => PyData.int (k : Int)) w [.sh (encW n ss ts), .sh (.tuple (w.map fun k : Nat => PyData.int (k : Int))), .no] g fun k hk => by
    have hz : ¬ (ss.length + ts.length ≤ k) := by have := hw k hk; omega
    have hz2 : ¬ (((ss.length + ts.length : Nat) : Int) ≤ (k : Int)) := by omega
    simp [natural_ok g (Int.natCast_nonneg k), h4, hz2, -Int.natCast_add]
  have hl2 : w.length ≤ 1000000 := by omega
  simp [m_is_word_of, b_is_word_of, isT, hl2, big, h1, eqD]
  rfl
theorem walked_ok {p : Pr} (g : G) (V : Wf n ss ts) (hp : Sp2 n p) (w : List Nat) (hl : w.length ≤ 1000) (hw : ∀ k ∈ w, k < ss.length + ts.length) : m_walked_by [encW n ss ts, encP p, .tuple (w.map fun k : Nat => PyData.int (k : Int))] g = .ok (encO (w.foldl (lead ss ts) (some p))) g := by
  have := along_ok (n := n) (ss := ss) (ts := ts) (o := some p) g w hw
  have e : encO (some p) = encP p := rfl
  rw [e] at this
  simp [m_walked_by, b_walked_by, check_ok g V, checkSpot_ok g hp, word_ok g V w hl hw, this]
/-! back along the moves -/
abbrev tS3 (ss : List St3) : List St3 := ss.map fun x => (x.2.1, x.1, -x.2.2)
abbrev tPr (ts : List Pr) : List Pr := ts.map fun x => (x.2, x.1)
theorem turn_wf (V : Wf n ss ts) : Wf n (tS3 ss) (tPr ts) := by
  refine ⟨V.n1, V.n2, by rw [List.length_map]; exact V.ls, by rw [List.length_map]; exact V.lt, fun x hx => ?_, fun x hx => ?_⟩
  · obtain ⟨y, hy, rfl⟩ := List.mem_map.mp hx
    have := V.s y hy
    refine ⟨this.2.2.1, this.2.2.2.1, this.1, this.2.1, ?_, ?_⟩
    · show -3 ≤ -y.2.2; omega
    · show -y.2.2 ≤ 3; omega
  · obtain ⟨y, hy, rfl⟩ := List.mem_map.mp hx
    have := V.t y hy
    exact ⟨this.2.2.1, this.2.2.2, this.1, this.2.1⟩
theorem turn_turn : tS3 (tS3 ss) = ss ∧ tPr (tPr ts) = ts := by
  constructor
  · show (ss.map _).map _ = ss
    rw [List.map_map]
    conv => rhs; rw [← List.map_id ss]
    exact List.map_congr_left fun x _ => by simp
  · show (ts.map _).map _ = ts
    rw [List.map_map]
    conv => rhs; rw [← List.map_id ts]
    exact List.map_congr_left fun x _ => by simp
theorem opts_at {p : Pr} {k : Nat} {o : Option Pr} (h : (opts ss ts p)[k]? = some o) : (∃ s, ss[k]? = some s ∧ stepO p s = o) ∨ (ss.length ≤ k ∧ ∃ t, ts[k - ss.length]? = some t ∧ testO p t = o) := by
  unfold opts at h
  by_cases hk : k < ss.length
  · rw [List.getElem?_append_left (by rw [List.length_map]; exact hk), List.getElem?_map] at h
    obtain ⟨s, h4, rfl⟩ := Option.map_eq_some_iff.mp h
    exact .inl ⟨s, h4, rfl⟩
  · rw [List.getElem?_append_right (by rw [List.length_map]; omega), List.length_map, List.getElem?_map] at h
    obtain ⟨t, h4, rfl⟩ := Option.map_eq_some_iff.mp h
    exact .inr ⟨by omega, t, h4, rfl⟩
theorem opts_step {p : Pr} {k : Nat} {s : St3} (h : ss[k]? = some s) : (opts ss ts p)[k]? = some (stepO p s) := by
  have hk := (List.getElem?_eq_some_iff.mp h).1
  unfold opts
  rw [List.getElem?_append_left (by rw [List.length_map]; exact hk), List.getElem?_map, h]
  rfl
theorem opts_test {p : Pr} {k : Nat} {t : Pr} (hk : ss.length ≤ k) (h : ts[k - ss.length]? = some t) : (opts ss ts p)[k]? = some (testO p t) := by
  unfold opts
  rw [List.getElem?_append_right (by rw [List.length_map]; omega), List.length_map, List.getElem?_map, h]
  rfl
theorem stepO_some {p q : Pr} {s : St3} (h : stepO p s = some q) : s.1 = p.1 ∧ 0 ≤ p.2 + s.2.2 ∧ q = (s.2.1, p.2 + s.2.2) := by
  unfold stepO at h
  split at h
  · rename_i c; exact ⟨c.1, c.2, (Option.some.inj h).symm⟩
  · cases h
theorem testO_some {p q : Pr} {t : Pr} (h : testO p t = some q) : p = (t.1, 0) ∧ q = (t.2, 0) := by
  unfold testO at h
  split at h
  · rename_i c; exact ⟨c, (Option.some.inj h).symm⟩
  · cases h
theorem back_move {p q : Pr} {k : Nat} (hp : 0 ≤ p.2) (h : (opts ss ts p)[k]? = some (some q)) : (opts (tS3 ss) (tPr ts) q)[k]? = some (some p) := by
  rcases opts_at h with ⟨s, h1, h2⟩ | ⟨h0, t, h1, h2⟩
  · obtain ⟨e1, e2, rfl⟩ := stepO_some h2
    rw [opts_step (s := (s.2.1, s.1, -s.2.2)) (by rw [List.getElem?_map, h1]; rfl)]
    congr 1
    unfold stepO
    rw [if_pos ⟨rfl, by show 0 ≤ p.2 + s.2.2 + -s.2.2; omega⟩]
    congr 1
    rcases p with ⟨a, b⟩
    simp at e1 ⊢
    exact ⟨e1, by omega⟩
  · obtain ⟨rfl, rfl⟩ := testO_some h2
    rw [opts_test (t := (t.2, t.1)) (by rw [List.length_map]; exact h0) (by rw [List.length_map, List.getElem?_map, h1]; rfl)]
    congr 1
    unfold testO
    rw [if_pos rfl]
theorem spot_move {p q : Pr} {k : Nat} (V : Wf n ss ts) (h : (opts ss ts p)[k]? = some (some q)) : Sp2 n q := by
  rcases opts_at h with ⟨s, h1, h2⟩ | ⟨h0, t, h1, h2⟩
  · obtain ⟨e1, e2, rfl⟩ := stepO_some h2
    have := V.s s (List.mem_of_getElem? h1)
    exact ⟨this.2.2.1, this.2.2.2.1, e2⟩
  · obtain ⟨rfl, rfl⟩ := testO_some h2
    have := V.t t (List.mem_of_getElem? h1)
    exact ⟨this.2.2.1, this.2.2.2, Int.le_refl 0⟩
/-- a word that is walked: forth, back, and what it adds -/
structure Wd (n : Int) (ss : List St3) (ts : List Pr) (p : Pr) (w : List Nat) (q : Pr) : Prop where
  sp : Sp2 n q
  lt : ∀ k ∈ w, k < ss.length + ts.length
  go : w.foldl (lead ss ts) (some p) = some q
  bk : w.reverse.foldl (lead (tS3 ss) (tPr ts)) (some q) = some p
  sm : (∀ k ∈ w, k < ss.length) → q.2 = p.2 + (w.map fun k => (ss[k]?.getD (0, 0, 0)).2.2).sum
theorem Wd.snoc {p q r : Pr} {w : List Nat} {k : Nat} (V : Wf n ss ts) (h : Wd n ss ts p w q) (hm : (opts ss ts q)[k]? = some (some r)) : Wd n ss ts p (w ++ [k]) r := by
  refine ⟨spot_move V hm, fun j hj => ?_, ?_, ?_, fun hs => ?_⟩
  · rcases List.mem_append.mp hj with z | z
    · exact h.lt j z
    · obtain rfl := List.mem_singleton.mp z
      have := (List.getElem?_eq_some_iff.mp hm).1
      rw [opts_len] at this
      exact this
  · rw [List.foldl_append, h.go]
    show (opts ss ts q)[k]?.getD none = _
    rw [hm]; rfl
  · rw [List.reverse_append]
    show w.reverse.foldl _ ((opts (tS3 ss) (tPr ts) r)[k]?.getD none) = _
    rw [back_move h.sp.2.2 hm]
    exact h.bk
  · have h1 := h.sm fun j hj => hs j (List.mem_append_left _ hj)
    have hk : k < ss.length := hs k (by simp)
    rcases opts_at hm with ⟨s, h2, h3⟩ | ⟨h0, _⟩
    · obtain ⟨e1, e2, rfl⟩ := stepO_some h3
      rw [List.map_append, List.sum_append, ← Int.add_assoc, ← h1]
      simp [h2]
    · omega
end
end K

set_option Elab.async false
set_option linter.all false
set_option maxRecDepth 100000
set_option maxHeartbeats 400000
namespace K
open PySem DL PyProof.Rows
/-! stepping through a body that must end with a given answer -/
section
variable {d : PyData}
def Ends (s : Sm) (ρ : Nv) (g : G) (d : PyData) : Prop := ∃ g', s ρ g = .rt d g'
theorem go_seq {a b : Sm} {ρ ρ1 : Nv} {g g1 : G} (h : a ρ g = .nx ρ1 g1) (k : Ends b ρ1 g1 d) : Ends (seqS a b) ρ g d := by
  obtain ⟨g', k⟩ := k
  exact ⟨g', by unfold seqS; rw [h]; exact k⟩
theorem go_shut {b : Sm} {i : Nat} {ds : List PyData} {ρ ρ1 : Nv} {g : G} (h : ρ[i]? = some (.ow (.lst ds))) (h1 : ρ.set i (.sh (.list ds)) = ρ1) (k : Ends b ρ1 g d) : Ends (shutS i b) ρ g d := by
  obtain ⟨g', k⟩ := k
  exact ⟨g', by unfold shutS; rw [h]; show b (ρ.set i _) g = _; rw [h1]; exact k⟩
theorem if_no {c : Te} {s t : Sm} {ρ : Nv} {g g1 : G} (h : c ρ g = .ok false g1) : ifS c s t ρ g = t ρ g1 := by unfold ifS; rw [h]
theorem if_yes {c : Te} {s t : Sm} {ρ : Nv} {g g1 : G} (h : c ρ g = .ok true g1) : ifS c s t ρ g = s ρ g1 := by unfold ifS; rw [h]
theorem for_run {fi : Ar} {t : Tg} {b : Sm} {ds : List PyData} {ρ ρ1 : Nv} {g g1 g2 : G} (h : fi ρ g = .ok ds g1) (k : forD t b ds ρ g1 = .nx ρ1 g2) : forS fi t b ρ g = .nx ρ1 g2 := by unfold forS; rw [h]; exact k
end
theorem shp_list {ds : List PyData} (h : ∀ d ∈ ds, d.canLay0 = true ∧ d.depth ≤ 10) : SeqAt.shaped (.list ds) = true := by
  have h1 : PyData.canLayAll0 ds = true ∧ PyData.depthAll ds ≤ 10 := by
    induction ds with
    | nil => exact ⟨by simp [PyData.canLayAll0], by simp [PyData.depthAll]⟩
    | cons d r ih =>
      obtain ⟨a, b⟩ := ih fun z hz => h z (List.mem_cons_of_mem _ hz)
      obtain ⟨a', b'⟩ := h d List.mem_cons_self
      exact ⟨by simp [PyData.canLayAll0, a, a'], by simp [PyData.depthAll]; omega⟩
  simp [SeqAt.shaped, PyData.canLay0, PyData.depth, h1.1]
  omega
theorem encM_lay (m : Nat × Pr) : (encM m).canLay0 = true ∧ (encM m).depth ≤ 10 := ⟨by simp [encM, encP, PyData.canLay0, PyData.canLayAll0], by simp [encM, encP, PyData.depth, PyData.depthAll]⟩
theorem encM_in {l : List (Nat × Pr)} {m : Nat × Pr} (h : m ∈ l) : notInD (encM m) (.list (l.map encM)) = some (.bool false) := by
  have h1 : SeqAt.shaped (.list (l.map encM)) = true := shp_list fun d hd => by
    obtain ⟨z, _, rfl⟩ := List.mem_map.mp hd
    exact encM_lay z
  have h2 : SeqAt.shaped (encM m) = true := by simp [SeqAt.shaped, (encM_lay m).1]; have := (encM_lay m).2; omega
  have h3 : ((l.map encM).any fun z => PyData.eqv z (encM m)) = true := by
    rw [List.any_eq_true]
    exact ⟨encM m, List.mem_map.mpr ⟨m, h, rfl⟩, PySem.SeqAt.eqv_refl _ (encM_lay m).1⟩
  simp [notInD, inD, h1, h2, h3]
section
variable {n : Int} {ss : List St3} {ts : List Pr}
theorem nar_W (V : Wf n ss ts) : Nar 7 (encW n ss ts) := by
  have := V.ls
  have := V.lt
  refine ⟨by simp, fun d hd => ?_⟩
  rcases List.mem_cons.mp hd with rfl | hd
  · trivial
  rcases List.mem_cons.mp hd with rfl | hd
  · refine ⟨by rw [List.length_map]; omega, fun d hd => ?_⟩
    obtain ⟨z, _, rfl⟩ := List.mem_map.mp hd
    exact ⟨by simp [encS], fun d hd => by
      rcases List.mem_cons.mp hd with rfl | hd
      · trivial
      rcases List.mem_cons.mp hd with rfl | hd
      · trivial
      obtain rfl := List.mem_singleton.mp hd
      trivial⟩
  · obtain rfl := List.mem_singleton.mp hd
    refine ⟨by rw [List.length_map]; omega, fun d hd => ?_⟩
    obtain ⟨z, _, rfl⟩ := List.mem_map.mp hd
    exact ⟨by simp [encP], fun d hd => by
      rcases List.mem_cons.mp hd with rfl | hd
      · trivial
      obtain rfl := List.mem_singleton.mp hd
      trivial⟩
theorem nar_P (p : Pr) (k : Nat) : Nar (k + 1) (encP p) := by
  refine ⟨by simp, fun d hd => ?_⟩
  rcases List.mem_cons.mp hd with rfl | hd
  · cases k <;> trivial
  obtain rfl := List.mem_singleton.mp hd
  cases k <;> trivial
theorem nar_O (o : Option Pr) : Nar 7 (encO o) := by
  cases o with
  | none => trivial
  | some p => exact nar_P p 6
theorem nar_M {p : Pr} (V : Wf n ss ts) : Nar 7 (.list ((movesOf 0 (opts ss ts p)).map encM)) := by
  have h1 := len_movesOf (opts ss ts p) 0
  rw [opts_len] at h1
  have := V.ls
  have := V.lt
  refine ⟨by rw [List.length_map]; omega, fun d hd => ?_⟩
  obtain ⟨z, _, rfl⟩ := List.mem_map.mp hd
  exact ⟨by simp, fun d hd => by
    rcases List.mem_cons.mp hd with rfl | hd
    · trivial
    obtain rfl := List.mem_singleton.mp hd
    exact nar_P _ 4⟩
/-! ### what is no walker, no place, no word -/
def badW : List PyData := [.none, .tuple [.int 0, .tuple [], .tuple []], .tuple [.int 9, .tuple [], .tuple []], .tuple [.int 1, .tuple [.tuple [.int 0, .int 1, .int 0]], .tuple []], .tuple [.int 1, .tuple [.tuple [.int 0, .int 0, .int 4]], .tuple []], .tuple [.int 1, .tuple [.tuple [.int 0, .int 0]], .tuple []],
    .tuple [.int 1, .tuple [], .tuple [.tuple [.int 0, .int 1]]], .tuple [.int 1, .list [], .tuple []], .tuple [.int 1, .tuple [], .list []], .tuple [.int 1, .tuple (List.replicate 17 (.tuple [.int 0, .int 0, .int 0])), .tuple []], .tuple [.int 1, .tuple [], .tuple (List.replicate 7 (.tuple [.int 0, .int 0]))], .tuple [.bool true, .tuple [], .tuple []],
    .tuple [.int 1, .tuple [.tuple [.int 0, .int 0, .bool true]], .tuple []], .list [.int 1, .tuple [], .tuple []]]
theorem bad_walkers (p : PyData) (g : G) : ∀ d ∈ badW, m_moves_at [d, p] g = .ex 0 g := by
  intro d hd
  simp only [badW, List.mem_cons, List.not_mem_nil, or_false] at hd
  rcases hd with rfl | rfl | rfl | rfl | rfl | rfl | rfl | rfl | rfl | rfl | rfl | rfl | rfl | rfl <;> rfl
theorem bad_spots (V : Wf n ss ts) (g : G) : ∀ d ∈ ([.none, .tuple [.int n, .int 0], .tuple [.int 0, .int (-1)], .tuple [.int 0], .list [.int 0, .int 0], .tuple [.int 0, .bool true], .tuple [.int (-1), .int 0]] : List PyData), m_moves_at [encW n ss ts, d] g = .ex 1 g := by
  intro d hd
  have n0 : 0 ≤ n := by have := V.n1; omega
  have h : ∀ d, m_is_spot [encW n ss ts, d] g = .ok (.bool false) g → m_moves_at [encW n ss ts, d] g = .ex 1 g := fun d h => by
    simp [m_moves_at, b_moves_at, check_ok g V, m_check_spot, b_check_spot, h]
  refine h d ?_
  have nr : 0 < n := by have := V.n1; omega
  simp only [List.mem_cons, List.not_mem_nil, or_false] at hd
  rcases hd with rfl | rfl | rfl | rfl | rfl | rfl | rfl <;> simp [m_is_spot, b_is_spot, m_is_room, b_is_room, m_is_natural, b_is_natural, encW, isT, eqD, n0, nr]
theorem bad_words {p : Pr} (V : Wf n ss ts) (hp : Sp2 n p) (g : G) : ∀ d ∈ ([.none, .list [.int 0], .tuple [.int ((ss.length : Int) + (ts.length : Int))], .tuple [.int (-1)], .tuple [.bool true], .str (PySem.Str.ofString "0")] : List PyData), m_walked_by [encW n ss ts, encP p, d] g = .ex 2 g := by
  intro d hd
  have h : ∀ d, m_is_word_of [encW n ss ts, d] g = .ok (.bool false) g → m_walked_by [encW n ss ts, encP p, d] g = .ex 2 g := fun d h => by
    simp [m_walked_by, b_walked_by, check_ok g V, checkSpot_ok g hp, h]
  refine h d ?_
  have h4 : m_count_of_moves [encW n ss ts] g = .ok (.int ((ss.length : Int) + (ts.length : Int))) g := by
    simp [m_count_of_moves, b_count_of_moves, encW]
  have h5 : (0 : Int) ≤ (ss.length : Int) + (ts.length : Int) := by omega
  simp only [List.mem_cons, List.not_mem_nil, or_false] at hd
  rcases hd with rfl | rfl | rfl | rfl | rfl | rfl
  · simp [m_is_word_of, b_is_word_of, isT]
  · simp [m_is_word_of, b_is_word_of, isT]
  · simp [m_is_word_of, b_is_word_of, isT, m_is_natural, b_is_natural, h4, h5, compD, big, eqD]
    rfl
  · simp [m_is_word_of, b_is_word_of, isT, m_is_natural, b_is_natural, compD, big, eqD]
    rfl
  · simp [m_is_word_of, b_is_word_of, isT, m_is_natural, b_is_natural, compD, big, eqD]
    rfl
  · simp [m_is_word_of, b_is_word_of, isT]
end
end K

set_option Elab.async false
set_option linter.all false
set_option maxRecDepth 100000
set_option maxHeartbeats 400000
namespace K
open PySem DL PyProof.Rows
theorem pick_moves {n : Int} {ss : List St3} {ts : List Pr} {p : Pr} (k : Nat) (hk : k < ss.length + ts.length) : ((movesOf 0 (opts ss ts p)).filter fun m => decide (((m.1 : Nat) : Int) = (k : Int))).map (fun m => encP m.2) = match (opts ss ts p)[k]?.getD none with
    | none => []
    | some q => [encP q] := by
  have key : ∀ (l : List (Option Pr)) (j : Nat), j ≤ k → k < j + l.length → ((movesOf j l).filter fun m => decide (((m.1 : Nat) : Int) = (k : Int))).map (fun m => encP m.2) = match l[k - j]?.getD none with
    | none => []
    | some q => [encP q] := by
    intro l
    induction l with
    | nil => intro j h1 h2; simp at h2; omega
    | cons o r ih =>
      intro j h1 h2
      by_cases e : j = k
      · subst e
        have none_left : ∀ (r : List (Option Pr)) (i : Nat), j < i → ((movesOf i r).filter fun m => decide (((m.1 : Nat) : Int) = (j : Int))) = [] := fun r i hi => by
          rw [List.filter_eq_nil_iff]
          intro m hm
          have := ((mem_movesOf r i m).mp hm).1
          simp
          omega
        rw [Nat.sub_self]
        cases o with
        | none =>
          show ((movesOf (j + 1) r).filter _).map _ = _
          rw [none_left r (j + 1) (by omega)]
          rfl
        | some q =>
          show (((j, q) :: movesOf (j + 1) r).filter _).map _ = _
          rw [List.filter_cons_of_pos (by simp), none_left r (j + 1) (by omega)]
          rfl
      · have hj : k - j = (k - (j + 1)) + 1 := by omega
        rw [hj, List.getElem?_cons_succ]
        have := ih (j + 1) (by omega) (by simp at h2; omega)
        cases o with
        | none => exact this
        | some q =>
          show (((j, q) :: movesOf (j + 1) r).filter _).map _ = _
          rw [List.filter_cons_of_neg (by simp; omega)]
          exact this
  exact key (opts ss ts p) 0 (Nat.zero_le _) (by rw [opts_len]; omega)
abbrev natD (k : Nat) : PyData := .int (k : Int)
theorem len_lt {n : Int} {ss : List St3} {ts : List Pr} {p : Pr} (V : Wf n ss ts) : (movesOf 0 (opts ss ts p)).length ≤ 100 := by
  have h1 := len_movesOf (opts ss ts p) 0
  rw [opts_len] at h1
  have := V.ls
  have := V.lt
  omega
theorem ints_ints : ∀ ns : List Int, intsD (ns.map PyData.int) = some ns
  | [] => rfl
  | n :: r => by simp [intsD, ints_ints r]
theorem sum_ints (ns : List Int) : sumD (.list (ns.map PyData.int)) = some (.int ns.sum) := by
  simp [sumD, ints_ints]
theorem bads_run {i k : Nat} {e : Ex} {ds : List PyData} {ρ : Nv} {g : G} (hi : k < 3) (h : ∀ d ∈ ds, ∀ z, e (((ρ.set i z).set i (.sh d))) g = .ex k g) : ∃ z, forD (nameT i) (tryS k 3 (seqS (dropS e) (retS (constD (.bool false)))) nextS) ds ρ g = .nx (ρ.set i z) g := by
  have := forD_all (t := nameT i) (body := tryS k 3 (seqS (dropS e) (retS (constD (.bool false)))) nextS) id (fun _ ρ' g' => g' = g ∧ ∃ z, ρ' = ρ.set i z) ds (by
    rintro pre d post ed ρ' g' ⟨rfl, z, rfl⟩
    have h1 := h d (by rw [ed]; simp) z
    rw [List.set_set] at h1
    refine ⟨_, ρ.set i (.sh d), g', rfl, .inl ?_, rfl, _, rfl⟩
    rw [List.set_set]
    simp [h1]) (ρ := ρ) (g := g) ⟨rfl, ρ[i]?.getD .no, by
      apply List.ext_getElem?
      intro j
      by_cases hj : i = j
      · subst hj
        rw [List.getElem?_set]
        split
        · split
          · rename_i h; rw [List.getElem?_eq_getElem h]; rfl
          · rename_i h; rw [List.getElem?_eq_none (by omega)]
        · rename_i h; exact absurd rfl h
      · rw [List.getElem?_set_ne hj]⟩
  obtain ⟨ρ', g', h1, rfl, z, rfl⟩ := this
  rw [List.map_id] at h1
  exact ⟨z, h1⟩
theorem more_ok {ms : List Int} {n : Int} {ss : List St3} {ts : List Pr} {p q : Pr} {w : List Nat} {g7 : G} (V : Wf n ss ts) (hp : Sp2 n p) (W : Wd n ss ts p w q) (lw : w.length ≤ 500) (hg : Dr ms g7) (y7 y11 x12 y15 x5 x6 x8 : Sl) : ∃ g8, Dr ms g8 ∧ ∃ z11 z16, ifS (boolD (opD (cmpD fun i j => decide (j < i)) (varD 3) (constD (.int 0))))
      (seqS (setS 11 (callG 2 1 m_law_draw (consD (varD 3) nilD)))
      (seqS (setOS 16 (lcO (itemsD (callD 2 m_law_moves (consD (varD 2) (consD (varD 14) nilD)))) [17, 12] (tupT (consT (nameT 17) (consT (nameT 12) nilT))) (boolD (opD eqD (varD 17) (varD 11))) (varD 12))) (shutS 16 (seqS (ifS (notT (truthD (callD 2 m_law_equal (consD (callD 3 m_walked_by (consD (varD 2) (consD (varD 4) (consD (opD addD (varD 13) (tupD (consD (varD 11) nilD))) nilD)))) (consD (ifD (boolD (opD (cmpD fun i j => decide (j < i)) (unD lenD (varD 16)) (constD (.int 0)))) (opD ixD (varD 16) (constD (.int 0))) (constD .none)) nilD)))))
      (retS (constD (.bool false)))
      nextS)
      (ifS (andT (boolD (opD eqD (unD lenD (varD 16)) (constD (.int 0)))) (boolD (unD notNoneD (callD 3 m_walked_by (consD (varD 2) (consD (varD 4) (consD (opD addD (varD 13) (tupD (consD (varD 11) (consD (varD 11) nilD)))) nilD)))))))
      (retS (constD (.bool false)))
      nextS)))))
      nextS [.no, .dr, .sh (encW n ss ts), .sh (.int ((ss.length : Int) + (ts.length : Int))), .sh (encP p), x5, x6, y7, x8, .no, .no, y11, x12, .sh (.tuple (w.map natD)), .sh (encP q), y15, .no, .no] g7
      = .nx [.no, .dr, .sh (encW n ss ts), .sh (.int ((ss.length : Int) + (ts.length : Int))), .sh (encP p), x5, x6, y7, x8, .no, .no, z11, x12, .sh (.tuple (w.map natD)), .sh (encP q), y15, z16, .no] g8 := by
  by_cases h0 : (0 : Int) < (ss.length : Int) + (ts.length : Int)
  · obtain ⟨r, g8, r0, r1, hd, hg8⟩ := draw_eq hg h0
    obtain ⟨k, rfl⟩ : ∃ k : Nat, r = (k : Int) := ⟨r.toNat, by omega⟩
    have hk : k < ss.length + ts.length := by omega
    have h1 := compD_pure (t := tupT (consT (nameT 17) (consT (nameT 12) nilT))) (cond := boolD (opD eqD (varD 17) (varD 11))) (elt := varD 12) encM (fun m => decide (((m.1 : Nat) : Int) = (k : Int))) (fun m => encP m.2) (movesOf 0 (opts ss ts q)) [.no, .dr, .sh (encW n ss ts), .sh (.int ((ss.length : Int) + (ts.length : Int))), .sh (encP p), x5, x6, y7, x8, .no, .no, .sh (.int (k : Int)), .no, .sh (.tuple (w.map natD)), .sh (encP q), y15, .no, .no] g8 fun m _ => ⟨[.no, .dr, .sh (encW n ss ts), .sh (.int ((ss.length : Int) + (ts.length : Int))), .sh (encP p), x5, x6, y7, x8, .no, .no, .sh (.int (k : Int)), .sh (encP m.2), .sh (.tuple (w.map natD)), .sh (encP q), y15, .no, .sh (.int (m.1 : Int))], by simp [encM], by simp [eqD], fun _ => by simp⟩
    rw [pick_moves (n := n) k hk] at h1
    have hw1 : ∀ j ∈ w ++ [k], j < ss.length + ts.length := fun j hj => by
      rcases List.mem_append.mp hj with z | z
      · exact W.lt j z
      · obtain rfl := List.mem_singleton.mp z
        exact hk
    have hw2 : ∀ j ∈ w ++ [k, k], j < ss.length + ts.length := fun j hj => by
      rcases List.mem_append.mp hj with z | z
      · exact W.lt j z
      · rcases List.mem_cons.mp z with rfl | z
        · exact hk
        · obtain rfl := List.mem_singleton.mp z
          exact hk
    have e1 := walked_ok (n := n) (ss := ss) (ts := ts) g8 V hp (w ++ [k]) (by simp; omega) hw1
    have e2 := walked_ok (n := n) (ss := ss) (ts := ts) g8 V hp (w ++ [k, k]) (by simp; omega) hw2
    rw [List.foldl_append, W.go, List.map_append] at e1 e2
    have f1 : [k].foldl (lead ss ts) (some q) = (opts ss ts q)[k]?.getD none := rfl
    have f2 : [k, k].foldl (lead ss ts) (some q) = lead ss ts ((opts ss ts q)[k]?.getD none) k := rfl
    rw [f1] at e1
    rw [f2] at e2
    have hb1 : w.length + 1 ≤ 1000000 := by omega
    have hb2 : w.length + 2 ≤ 1000000 := by omega
    have hb3 : (movesOf 0 (opts ss ts q)).length ≤ 1000000 := by have := len_lt (n := n) (p := q) V; omega
    have q1 := equal_refl g8 (nar_O ((opts ss ts q)[k]?.getD none))
    cases ho : (opts ss ts q)[k]?.getD none with
    | none =>
      rw [ho] at h1 e1 e2 q1
      refine ⟨g8, hg8, .sh (.int (k : Int)), .sh (.list []), ?_⟩
      refine (if_yes (g1 := g7) (by simp [h0])).trans ?_
      simp only [encO, lead, List.map_cons, List.map_nil] at e1 e2 q1
      simp [hd, lawMoves_ok g8 V, hb3, big, h1, hb1, hb2, e1, e2, q1, eqD]
    | some z =>
      rw [ho] at h1 e1 e2 q1
      refine ⟨g8, hg8, .sh (.int (k : Int)), .sh (.list [encP z]), ?_⟩
      refine (if_yes (g1 := g7) (by simp [h0])).trans ?_
      simp only [encO, List.map_cons, List.map_nil] at e1 q1
      simp [hd, lawMoves_ok g8 V, hb3, big, h1, hb1, e1, q1, eqD]
  · refine ⟨g7, hg, y11, .no, (if_no (g1 := g7) (by simp [h0])).trans rfl⟩
theorem law_runs (ms : List Int) (hs : Small ms) : ∃ g', b_law (.no :: .dr :: List.replicate 16 .no) (some (ms, 0)) = .rt (.bool true) g' := by
  obtain ⟨n, ss, ts, g1, V, hg1, hd1⟩ := lawWalker_ok (ms := ms) (g := some (ms, 0)) ⟨0, by decide, rfl⟩
  have ls := V.ls
  have lt := V.lt
  obtain ⟨pr, g2, pr0, pr1, hd2, hg2⟩ := draw_eq hg1 (many := n) (by have := V.n1; omega)
  obtain ⟨c, g3, c0, c1, hd3, hg3⟩ := draw_eq hg2 (many := 3) (by decide)
  obtain ⟨top, htop, hix⟩ : ∃ top : Int, 0 < top ∧ ixD (.list [.int 1, .int 4, .int 1000000]) (.int c) = some (.int top) := by
    rcases (by omega : c = 0 ∨ c = 1 ∨ c = 2) with rfl | rfl | rfl
    · exact ⟨1, by decide, rfl⟩
    · exact ⟨4, by decide, rfl⟩
    · exact ⟨1000000, by decide, rfl⟩
  obtain ⟨pv, g4, pv0, pv1, hd4, hg4⟩ := draw_eq hg3 (many := top) htop
  have hp : Sp2 n (pr, pv) := ⟨pr0, pr1, pv0⟩
  have hpe : ∀ a b : Int, PyData.tuple [.int a, .int b] = encP (a, b) := fun _ _ => rfl
  generalize hpd : (pr, pv) = p at hp
  have hpp : PyData.tuple [.int pr, .int pv] = encP p := by rw [← hpd]; rfl
  have U := turn_wf V
  have e0 : ∀ (a b : PyData), ixD (encW n ss ts) (.int 0) = some (.int n) := fun _ _ => ix0 _ _
  have eW1 : ixD (encW n ss ts) (.int 1) = some (.tuple (ss.map encS)) := ix1 _ _ _
  have eW2 : ixD (encW n ss ts) (.int 2) = some (.tuple (ts.map encP)) := ix2 _ _ _ _
  have eW0 : ixD (encW n ss ts) (.int 0) = some (.int n) := ix0 _ _
  have eP1 : ∀ q : Pr, ixD (encP q) (.int 1) = some (.int q.2) := fun q => ix1 _ _ _
  have tt : encW n (tS3 (tS3 ss)) (tPr (tPr ts)) = encW n ss ts := by rw [(turn_turn (ss := ss) (ts := ts)).1, (turn_turn (ss := ss) (ts := ts)).2]
  show Ends b_law _ _ _
  unfold b_law
  -- walker, many, place, back
  refine go_seq (ρ1 := [.no, .dr, .sh (encW n ss ts), .no, .no, .no, .no, .no, .no, .no, .no, .no, .no, .no, .no, .no, .no, .no]) (g1 := g1) (by simp [hd1]) ?_
  refine go_seq (ρ1 := [.no, .dr, .sh (encW n ss ts), .sh (.int ((ss.length : Int) + (ts.length : Int))), .no, .no, .no, .no, .no, .no, .no, .no, .no, .no, .no, .no, .no, .no]) (g1 := g1) (by simp [eW1, eW2]) ?_
  refine go_seq (ρ1 := [.no, .dr, .sh (encW n ss ts), .sh (.int ((ss.length : Int) + (ts.length : Int))), .sh (encP p), .no, .no, .no, .no, .no, .no, .no, .no, .no, .no, .no, .no, .no]) (g1 := g4) (by simp [eW0, hd2, hd3, hix, hd4, hpp]) ?_
  refine go_seq (ρ1 := [.no, .dr, .sh (encW n ss ts), .sh (.int ((ss.length : Int) + (ts.length : Int))), .sh (encP p), .sh (encW n (tS3 ss) (tPr ts)), .no, .no, .no, .no, .no, .no, .no, .no, .no, .no, .no, .no]) (g1 := g4) (by simp [turned_ok _ V]) ?_
  refine go_seq (ρ1 := [.no, .dr, .sh (encW n ss ts), .sh (.int ((ss.length : Int) + (ts.length : Int))), .sh (encP p), .sh (encW n (tS3 ss) (tPr ts)), .no, .no, .no, .no, .no, .no, .no, .no, .no, .no, .no, .no]) (g1 := g4) (by
    have h1 := turned_ok g4 U
    rw [tt] at h1
    refine (if_no (g1 := g4) ?_).trans rfl
    simp [lawTurned_ok _ V, equal_refl _ (nar_W U), h1, equal_refl _ (nar_W V)]) ?_
  -- told
  refine go_seq (ρ1 := [.no, .dr, .sh (encW n ss ts), .sh (.int ((ss.length : Int) + (ts.length : Int))), .sh (encP p), .sh (encW n (tS3 ss) (tPr ts)), .sh (.list ((movesOf 0 (opts ss ts p)).map encM)), .no, .no, .no, .no, .no, .no, .no, .no, .no, .no, .no]) (g1 := g4) (by simp [moves_ok _ V hp]) ?_
  refine go_seq (ρ1 := [.no, .dr, .sh (encW n ss ts), .sh (.int ((ss.length : Int) + (ts.length : Int))), .sh (encP p), .sh (encW n (tS3 ss) (tPr ts)), .sh (.list ((movesOf 0 (opts ss ts p)).map encM)), .no, .no, .no, .no, .no, .no, .no, .no, .no, .no, .no]) (g1 := g4) (by
    refine (if_no (g1 := g4) ?_).trans rfl
    simp [lawMoves_ok _ V, equal_refl _ (nar_M V)]) ?_
  -- each move back
  obtain ⟨_, g5, h5, hg5, x11, x12, rfl⟩ := forD_all (t := tupT (consT (nameT 11) (consT (nameT 12) nilT))) (body := ifS (boolD (opD notInD (tupD (consD (varD 11) (consD (varD 4) nilD))) (callD 2 m_moves_at (consD (varD 5) (consD (varD 12) nilD)))))
    (retS (constD (.bool false)))
    nextS) encM (fun pre ρ g => g = g4 ∧ ∃ x11 x12, ρ = [.no, .dr, .sh (encW n ss ts), .sh (.int ((ss.length : Int) + (ts.length : Int))), .sh (encP p), .sh (encW n (tS3 ss) (tPr ts)), .sh (.list ((movesOf 0 (opts ss ts p)).map encM)), .no, .no, .no, .no, x11, x12, .no, .no, .no, .no, .no]) (movesOf 0 (opts ss ts p)) (by
      rintro pre m post e ρ g ⟨rfl, x11, x12, rfl⟩
      have hm : m ∈ movesOf 0 (opts ss ts p) := by rw [e]; simp
      have h1 := ((mem_movesOf _ _ _).mp hm).2
      rw [Nat.sub_zero] at h1
      have h2 := back_move hp.2.2 h1
      have h3 : (m.1, p) ∈ movesOf 0 (opts (tS3 ss) (tPr ts) m.2) := (mem_movesOf _ _ _).mpr ⟨Nat.zero_le _, by rw [Nat.sub_zero]; exact h2⟩
      have h4 := encM_in h3
      refine ⟨[.no, .dr, .sh (encW n ss ts), .sh (.int ((ss.length : Int) + (ts.length : Int))), .sh (encP p), .sh (encW n (tS3 ss) (tPr ts)), .sh (.list ((movesOf 0 (opts ss ts p)).map encM)), .no, .no, .no, .no, .sh (.int (m.1 : Int)), .sh (encP m.2), .no, .no, .no, .no, .no], _, g, by simp [encM], .inl ((if_no (g1 := g) ?_).trans rfl), rfl, _, _, rfl⟩
      have h6 : encM (m.1, p) = .tuple [.int (m.1 : Int), encP p] := rfl
      rw [h6] at h4
      simp [moves_ok g U (spot_move V h1), h4]) (g := g4) (ρ := [.no, .dr, .sh (encW n ss ts), .sh (.int ((ss.length : Int) + (ts.length : Int))), .sh (encP p), .sh (encW n (tS3 ss) (tPr ts)), .sh (.list ((movesOf 0 (opts ss ts p)).map encM)), .no, .no, .no, .no, .no, .no, .no, .no, .no, .no, .no]) ⟨rfl, _, _, rfl⟩
  rw [hg5] at h5
  refine go_seq (ρ1 := [.no, .dr, .sh (encW n ss ts), .sh (.int ((ss.length : Int) + (ts.length : Int))), .sh (encP p), .sh (encW n (tS3 ss) (tPr ts)), .sh (.list ((movesOf 0 (opts ss ts p)).map encM)), .no, .no, .no, .no, x11, x12, .no, .no, .no, .no, .no]) (g1 := g4) (for_run (g1 := g4) (by simp) h5) ?_
  refine go_seq (ρ1 := [.no, .dr, .sh (encW n ss ts), .sh (.int ((ss.length : Int) + (ts.length : Int))), .sh (encP p), .sh (encW n (tS3 ss) (tPr ts)), .sh (.list ((movesOf 0 (opts ss ts p)).map encM)), .no, .no, .no, .no, x11, x12, .sh (.tuple []), .sh (encP p), .no, .no, .no]) (g1 := g4) (by simp) ?_
  -- the word
  obtain ⟨many, g6, m0, m1, hd6, hg6⟩ := draw_eq hg4 (many := 12) (by decide)
  obtain ⟨_, g7, h7, hg7, w, q, y7, y11, y15, rfl, lw, W⟩ := forD_all (t := nameT 7) (body := seqS (setS 15 (callD 2 m_law_moves (consD (varD 2) (consD (varD 14) nilD))))
    (ifS (boolD (opD (cmpD fun i j => decide (j < i)) (unD lenD (varD 15)) (constD (.int 0))))
    (seqS (asgS (opD ixD (varD 15) (callG 2 1 m_law_draw (consD (unD lenD (varD 15)) nilD))) (tupT (consT (nameT 11) (consT (nameT 14) nilT))))
    (setS 13 (opD addD (varD 13) (tupD (consD (varD 11) nilD)))))
    nextS)) (fun k : Nat => PyData.int (0 + (k : Int))) (fun pre ρ g => Dr ms g ∧ ∃ (w : List Nat) (q : Pr) (y7 y11 y15 : Sl), ρ = [.no, .dr, .sh (encW n ss ts), .sh (.int ((ss.length : Int) + (ts.length : Int))), .sh (encP p), .sh (encW n (tS3 ss) (tPr ts)), .sh (.list ((movesOf 0 (opts ss ts p)).map encM)), y7, .no, .no, .no, y11, x12, .sh (.tuple (w.map natD)), .sh (encP q), y15, .no, .no] ∧ w.length ≤ pre.length ∧ Wd n ss ts p w q) (List.range many.toNat) (by
      rintro pre k post e ρ g ⟨hg, w, q, y7, y11, y15, rfl, lw, W⟩
      have hk := range_pre e
      by_cases h0 : 0 < (movesOf 0 (opts ss ts q)).length
      · obtain ⟨r, g', r0, r1, hd, hg'⟩ := draw_eq hg (many := ((movesOf 0 (opts ss ts q)).length : Int)) (by omega)
        obtain ⟨j, rfl⟩ : ∃ j : Nat, r = (j : Int) := ⟨r.toNat, by omega⟩
        have hj : j < (movesOf 0 (opts ss ts q)).length := by omega
        have h1 : ixD (.list ((movesOf 0 (opts ss ts q)).map encM)) (.int (j : Int)) = some (encM (movesOf 0 (opts ss ts q))[j]) := L2.atI_nat (by rw [List.getElem?_map, List.getElem?_eq_getElem hj]; rfl)
        have hm : (movesOf 0 (opts ss ts q))[j] ∈ movesOf 0 (opts ss ts q) := List.getElem_mem hj
        generalize (movesOf 0 (opts ss ts q))[j] = m at h1 hm
        have h2 := ((mem_movesOf _ _ _).mp hm).2
        rw [Nat.sub_zero] at h2
        have hb : w.length + 1 ≤ 1000000 := by omega
        refine ⟨_, [.no, .dr, .sh (encW n ss ts), .sh (.int ((ss.length : Int) + (ts.length : Int))), .sh (encP p), .sh (encW n (tS3 ss) (tPr ts)), .sh (.list ((movesOf 0 (opts ss ts p)).map encM)), .sh (.int (0 + (k : Int))), .no, .no, .no, .sh (.int (m.1 : Int)), x12, .sh (.tuple ((w ++ [m.1]).map natD)), .sh (encP m.2), .sh (.list ((movesOf 0 (opts ss ts q)).map encM)), .no, .no], g', rfl, .inl ?_, hg', w ++ [m.1], m.2, _, _, _, rfl, by simp; omega, W.snoc V h2⟩
        have h3 : encM m = .tuple [.int (m.1 : Int), encP m.2] := rfl
        rw [h3] at h1
        simp [lawMoves_ok g V, h0, hd, h1, big, hb]
      · refine ⟨_, [.no, .dr, .sh (encW n ss ts), .sh (.int ((ss.length : Int) + (ts.length : Int))), .sh (encP p), .sh (encW n (tS3 ss) (tPr ts)), .sh (.list ((movesOf 0 (opts ss ts p)).map encM)), .sh (.int (0 + (k : Int))), .no, .no, .no, y11, x12, .sh (.tuple (w.map natD)), .sh (encP q), .sh (.list ((movesOf 0 (opts ss ts q)).map encM)), .no, .no], g, rfl, .inl ?_, hg, w, q, _, _, _, rfl, by simp; omega, W⟩
        have h0' : (movesOf 0 (opts ss ts q)).length = 0 := by omega
        simp [lawMoves_ok g V, h0']) (g := g6) (ρ := [.no, .dr, .sh (encW n ss ts), .sh (.int ((ss.length : Int) + (ts.length : Int))), .sh (encP p), .sh (encW n (tS3 ss) (tPr ts)), .sh (.list ((movesOf 0 (opts ss ts p)).map encM)), .no, .no, .no, .no, x11, x12, .sh (.tuple []), .sh (encP p), .no, .no, .no]) ⟨hg6, [], p, _, _, _, rfl, Nat.le_refl _, ⟨hp, (fun _ h => nomatch h), rfl, rfl, fun _ => by simp⟩⟩
  rw [← upFrom_map] at h7
  rw [List.length_range] at lw
  refine go_seq (ρ1 := [.no, .dr, .sh (encW n ss ts), .sh (.int ((ss.length : Int) + (ts.length : Int))), .sh (encP p), .sh (encW n (tS3 ss) (tPr ts)), .sh (.list ((movesOf 0 (opts ss ts p)).map encM)), y7, .no, .no, .no, y11, x12, .sh (.tuple (w.map natD)), .sh (encP q), y15, .no, .no]) (g1 := g7) (for_run (g1 := g6) (by
    have hb : many ≤ 1000000 ∧ -1000000 ≤ many := by omega
    simp [hd6, big, hb]) h7) ?_
  have lw2 : w.length ≤ 500 := by omega
  have lw3 : w.length ≤ 1000 := by omega
  have hfw := walked_ok (n := n) (ss := ss) (ts := ts) g7 V hp w lw3 W.lt
  rw [W.go] at hfw
  have hbk := walked_ok (n := n) (ss := tS3 ss) (ts := tPr ts) g7 U W.sp w.reverse (by rw [List.length_reverse]; exact lw3) (fun k hk => by rw [List.length_map, List.length_map]; exact W.lt k (List.mem_reverse.mp hk))
  rw [W.bk, List.map_reverse] at hbk
  refine go_seq (ρ1 := [.no, .dr, .sh (encW n ss ts), .sh (.int ((ss.length : Int) + (ts.length : Int))), .sh (encP p), .sh (encW n (tS3 ss) (tPr ts)), .sh (.list ((movesOf 0 (opts ss ts p)).map encM)), y7, .no, .no, .no, y11, x12, .sh (.tuple (w.map natD)), .sh (encP q), y15, .no, .no]) (g1 := g7) (by
    refine (if_no (g1 := g7) ?_).trans rfl
    have e1 := equal_refl g7 (nar_P q 6)
    have e2 := equal_refl g7 (nar_P p 6)
    simp only [encO] at hfw hbk
    simp [hfw, hbk, e1, e2]) ?_
  -- the tests of the word
  have h8 := compD_pure (t := nameT 17) (cond := boolD (opD (cmpD fun i j => decide (j ≤ i)) (opD ixD (varD 13) (varD 17)) (unD lenD (opD ixD (varD 2) (constD (.int 1)))))) (elt := varD 17) (fun k : Nat => PyData.int (0 + (k : Int))) (fun k => decide (ss.length ≤ w[k]?.getD 0)) natD (List.range w.length) [.no, .dr, .sh (encW n ss ts), .sh (.int ((ss.length : Int) + (ts.length : Int))), .sh (encP p), .sh (encW n (tS3 ss) (tPr ts)), .sh (.list ((movesOf 0 (opts ss ts p)).map encM)), y7, .no, .no, .no, y11, x12, .sh (.tuple (w.map natD)), .sh (encP q), y15, .no, .no] g7 fun k hk => ⟨_, rfl, by
    have hk2 := List.mem_range.mp hk
    have e1 : ixD (.tuple (w.map natD)) (.int (k : Int)) = some (natD w[k]) := L2.atI_nat (by rw [List.getElem?_map, List.getElem?_eq_getElem hk2]; rfl)
    simp [eW1, e1, List.getElem?_eq_getElem hk2], fun _ => by simp⟩
  generalize hT : (List.range w.length).filter (fun k => decide (ss.length ≤ w[k]?.getD 0)) = T at h8
  rw [← upFrom_map] at h8
  refine go_seq (ρ1 := [.no, .dr, .sh (encW n ss ts), .sh (.int ((ss.length : Int) + (ts.length : Int))), .sh (encP p), .sh (encW n (tS3 ss) (tPr ts)), .sh (.list ((movesOf 0 (opts ss ts p)).map encM)), y7, .ow (.lst (T.map natD)), .no, .no, y11, x12, .sh (.tuple (w.map natD)), .sh (encP q), y15, .no, .no]) (g1 := g7) (by
    have hb : ((w.length : Nat) : Int) ≤ 1000000 ∧ -1000000 ≤ ((w.length : Nat) : Int) := by omega
    have hb2 : w.length ≤ 1000000 := by omega
    simp [hb, hb2, big, h8]) ?_
  refine go_shut rfl rfl ?_
  refine go_seq (ρ1 := [.no, .dr, .sh (encW n ss ts), .sh (.int ((ss.length : Int) + (ts.length : Int))), .sh (encP p), .sh (encW n (tS3 ss) (tPr ts)), .sh (.list ((movesOf 0 (opts ss ts p)).map encM)), y7, .sh (.list (T.map natD)), .no, .no, y11, x12, .sh (.tuple (w.map natD)), .sh (encP q), y15, .no, .no]) (g1 := g7) (by
    refine (if_no (g1 := g7) ?_).trans rfl
    by_cases hz : T.length = 0
    · have hT0 : T = [] := List.eq_nil_of_length_eq_zero hz
      rw [hT0] at hT
      have hall : ∀ k ∈ w, k < ss.length := fun k hk => by
        obtain ⟨i, hi, rfl⟩ := List.getElem_of_mem hk
        have := (List.filter_eq_nil_iff.mp hT) i (List.mem_range.mpr hi)
        rw [List.getElem?_eq_getElem hi] at this
        simpa using this
      have h9 := compD_pure (t := nameT 11) (cond := yesT) (elt := opD ixD (opD ixD (opD ixD (varD 2) (constD (.int 1))) (varD 11)) (constD (.int 2))) natD (fun _ => true) (fun k => PyData.int (ss[k]?.getD (0, 0, 0)).2.2) w [.no, .dr, .sh (encW n ss ts), .sh (.int ((ss.length : Int) + (ts.length : Int))), .sh (encP p), .sh (encW n (tS3 ss) (tPr ts)), .sh (.list ((movesOf 0 (opts ss ts p)).map encM)), y7, .sh (.list (T.map natD)), .no, .no, .no, x12, .sh (.tuple (w.map natD)), .sh (encP q), y15, .no, .no] g7 fun k hk => ⟨_, rfl, rfl, fun _ => by
        have hk2 := hall k hk
        have e1 := ix_map encS ss k ss[k] (List.getElem?_eq_getElem hk2)
        simp [eW1, e1, List.getElem?_eq_getElem hk2, encS]⟩
      rw [List.filter_eq_self.mpr fun _ _ => rfl] at h9
      have h10 : sumD (.list (w.map fun k => PyData.int (ss[k]?.getD (0, 0, 0)).2.2)) = some (.int (w.map fun k => (ss[k]?.getD (0, 0, 0)).2.2).sum) := by
        have := sum_ints (w.map fun k => (ss[k]?.getD (0, 0, 0)).2.2)
        rw [List.map_map] at this
        exact this
      have h11 := W.sm hall
      have hb2 : w.length ≤ 1000000 := by omega
      rw [hT0, List.map_nil] at h9
      rw [hT0, List.map_nil]
      simp [eqD, neD, eP1, h9, h10, ← h11, hb2, big]
    · have hz2 : ¬ ((T.length : Int) = 0) := by omega
      simp [eqD, hz]) ?_
  -- one move more
  obtain ⟨g8, hg8, z11, z16, h12⟩ := more_ok V hp W lw2 hg7 y7 y11 x12 y15 (.sh (encW n (tS3 ss) (tPr ts))) (.sh (.list ((movesOf 0 (opts ss ts p)).map encM))) (.sh (.list (T.map natD)))
  refine go_seq h12 ?_
  refine go_seq (ρ1 := [.no, .dr, .sh (encW n ss ts), .sh (.int ((ss.length : Int) + (ts.length : Int))), .sh (encP p), .sh (encW n (tS3 ss) (tPr ts)), .sh (.list ((movesOf 0 (opts ss ts p)).map encM)), y7, .sh (.list (T.map natD)), .sh (.list badW), .no, z11, x12, .sh (.tuple (w.map natD)), .sh (encP q), y15, z16, .no]) (g1 := g8) (by rfl) ?_
  obtain ⟨z10, h13⟩ := bads_run (i := 10) (k := 0) (e := callD 2 m_moves_at (consD (varD 10) (consD (tupD (consD (constD (.int 0)) (consD (constD (.int 0)) nilD))) nilD))) (ds := badW) (ρ := [.no, .dr, .sh (encW n ss ts), .sh (.int ((ss.length : Int) + (ts.length : Int))), .sh (encP p), .sh (encW n (tS3 ss) (tPr ts)), .sh (.list ((movesOf 0 (opts ss ts p)).map encM)), y7, .sh (.list (T.map natD)), .sh (.list badW), .no, z11, x12, .sh (.tuple (w.map natD)), .sh (encP q), y15, z16, .no]) (g := g8) (by decide) fun d hd z => by
      have := bad_walkers (.tuple [.int 0, .int 0]) g8 d hd
      simp [this]
  refine go_seq (ρ1 := [.no, .dr, .sh (encW n ss ts), .sh (.int ((ss.length : Int) + (ts.length : Int))), .sh (encP p), .sh (encW n (tS3 ss) (tPr ts)), .sh (.list ((movesOf 0 (opts ss ts p)).map encM)), y7, .sh (.list (T.map natD)), .sh (.list badW), z10, z11, x12, .sh (.tuple (w.map natD)), .sh (encP q), y15, z16, .no]) (for_run (g1 := g8) (by simp) h13) ?_
  obtain ⟨z10', h14⟩ := bads_run (i := 10) (k := 1) (e := callD 2 m_moves_at (consD (varD 2) (consD (varD 10) nilD))) (ds := [.none, .tuple [.int n, .int 0], .tuple [.int 0, .int (-1)], .tuple [.int 0], .list [.int 0, .int 0], .tuple [.int 0, .bool true], .tuple [.int (-1), .int 0]]) (ρ := [.no, .dr, .sh (encW n ss ts), .sh (.int ((ss.length : Int) + (ts.length : Int))), .sh (encP p), .sh (encW n (tS3 ss) (tPr ts)), .sh (.list ((movesOf 0 (opts ss ts p)).map encM)), y7, .sh (.list (T.map natD)), .sh (.list badW), z10, z11, x12, .sh (.tuple (w.map natD)), .sh (encP q), y15, z16, .no]) (g := g8) (by decide) fun d hd z => by
      have := bad_spots V g8 d hd
      simp [this]
  refine go_seq (ρ1 := [.no, .dr, .sh (encW n ss ts), .sh (.int ((ss.length : Int) + (ts.length : Int))), .sh (encP p), .sh (encW n (tS3 ss) (tPr ts)), .sh (.list ((movesOf 0 (opts ss ts p)).map encM)), y7, .sh (.list (T.map natD)), .sh (.list badW), z10', z11, x12, .sh (.tuple (w.map natD)), .sh (encP q), y15, z16, .no]) (for_run (g1 := g8) (by simp [eW0]) h14) ?_
  obtain ⟨z10'', h15⟩ := bads_run (i := 10) (k := 2) (e := callD 3 m_walked_by (consD (varD 2) (consD (varD 4) (consD (varD 10) nilD)))) (ds := [.none, .list [.int 0], .tuple [.int ((ss.length : Int) + (ts.length : Int))], .tuple [.int (-1)], .tuple [.bool true], .str (PySem.Str.ofString "0")]) (ρ := [.no, .dr, .sh (encW n ss ts), .sh (.int ((ss.length : Int) + (ts.length : Int))), .sh (encP p), .sh (encW n (tS3 ss) (tPr ts)), .sh (.list ((movesOf 0 (opts ss ts p)).map encM)), y7, .sh (.list (T.map natD)), .sh (.list badW), z10', z11, x12, .sh (.tuple (w.map natD)), .sh (encP q), y15, z16, .no]) (g := g8) (by decide) fun d hd z => by
      have := bad_words V hp g8 d hd
      simp [this]
  refine go_seq (for_run (g1 := g8) (by simp) h15) ?_
  exact ⟨g8, rfl⟩
end K

set_option Elab.async false
set_option linter.all false
set_option maxRecDepth 100000
set_option maxHeartbeats 400000
namespace K
open PySem PySem.Spec PyProof.Rows L2 DL
section
theorem exm_of {K : PySem.W.Frag} {S T : Addr} {b : Bool} (h1 : PySem.W.subIn K (.ref T) (.type "BaseException") = some true) (h2 : PySem.W.isClsIn K T = true) (h3 : PySem.W.typeIn K (.ref T) = some (.type "type")) (h4 : PySem.W.subIn K (.ref S) (.ref T) = some b) :
    PySem.W.exmOne K (.ref S) (.ref T) = some b := by
  have e1 : (PySem.W.subIn K (.ref T) (.type "BaseException") == some true) = true := by rw [h1] <;> rfl
  have e2 : ((PySem.W.clsIn K T).isSome && PySem.W.typeIn K (.ref T) == some (.type "type")) = true := by
    have h2' : (PySem.W.clsIn K T).isSome = true := h2
    rw [h2', h3] <;> rfl
  show (if (PySem.W.subIn K (.ref T) (.type "BaseException") == some true) = true then (if ((PySem.W.clsIn K T).isSome && PySem.W.typeIn K (.ref T) == some (.type "type")) = true then PySem.W.subIn K (.ref S) (.ref T) else none) else none) = some b
  rw [if_pos e1, if_pos e2]
  exact h4
theorem cx_no {P : Program} {w : World} {H : Hp} {s s2 : Shared} {v : Value} (h : L2.CX P w [] H s (fun _ _ _ => False) v s2) : False := by
  obtain ⟨_, _, _, _, _, _, _, _, _, _, _, _, h⟩ := h
  exact h
set_option maxHeartbeats 4000000 in
theorem all_mk {l : PySem.W.OpenLaw} {w : World} {K : PySem.W.Frag} {h : Heap} {mg : Str → Option Value} (X : K.In h) (G : h.Ns mainGlobals mg) {fa C0 C1 C2 f0 f1 f2 f3 f4 f5 f6 f7 f8 f9 f10 f11 f12 f13 f14 f15 f16 f17 f18 f19 f20 f21 f22 f23 f24 f25 : Addr} {od0 od1 od2 od3 od4 od5 od6 od7 od8 od9 od10 od11 od12 od13 od14 od15 od16 od17 od18 od19 od20 od21 od22 od23 od24 od25 an0 an1 an2 an3 an4 an5 an6 an7 an8 an9 an10 an11 an12 an13 an14 an15 an16 an17 an18 an19 an20 an21 an22 an23 an24 an25 : Option Addr} {sl0 sl1 sl2 sl3 sl4 sl5 sl6 sl7 sl8 sl9 sl10 sl11 sl12 sl13 sl14 sl15 sl16 sl17 sl18 sl19 sl20 sl21 sl22 sl23 sl24 sl25 : Array (Option Value)} {oc0 oc1 oc2 oc3 oc4 oc5 oc6 oc7 oc8 oc9 oc10 oc11 oc12 oc13 oc14 oc15 oc16 oc17 oc18 oc19 oc20 oc21 oc22 oc23 oc24 oc25 kV0 kV1 kV2 kV3 kV4 kV5 kV6 kV7 kV8 kV9 kV10 kV11 kV12 kV13 kV14 kV15 kV16 kV17 kV18 kV19 kV20 kV21 kV22 kV23 kV24 kV25 dc0 dc1 dc2 dc3 dc4 dc5 dc6 dc7 dc8 dc9 dc10 dc11 dc12 dc13 dc14 dc15 dc16 dc17 dc18 dc19 dc20 dc21 dc22 dc23 dc24 dc25 pm0 pm1 pm2 pm3 pm4 pm5 pm6 pm7 pm8 pm9 pm10 pm11 pm12 pm13 pm14 pm15 pm16 pm17 pm18 pm19 pm20 pm21 pm22 pm23 pm24 pm25 cd0 cd1 cd2 cd3 cd4 cd5 cd6 cd7 cd8 cd9 cd10 cd11 cd12 cd13 cd14 cd15 cd16 cd17 cd18 cd19 cd20 cd21 cd22 cd23 cd24 cd25 ct0 ct1 ct2 ct3 ct4 ct5 ct6 ct7 ct8 ct9 ct10 ct11 ct12 ct13 ct14 ct15 ct16 ct17 ct18 ct19 ct20 ct21 ct22 ct23 ct24 ct25 : Value} {t_MOST_CHANGE t_MOST_ROOMS t_MOST_STEPS t_MOST_TESTS : _} (hfa : mg "law" = some (.ref fa))
    (a0 : PySem.W.nsIn K mainGlobals "_law_mixed" = some (some (.ref f0)))
    (l0 : K.lookup f0 = some ⟨oc0, od0, .func (PySem.W.fnOf "_law_mixed" "_law_mixed" (defArgs s_law_mixed) (defBody s_law_mixed) (defScope s_law_mixed) .none kV0 dc0 pm0 an0 cd0 ct0), sl0⟩)
    (c0 : PySem.W.codeIn K cd0 "_law_mixed" = true) (k0 : PySem.W.keepIn K (.ref f0) = true)
    (a1 : PySem.W.nsIn K mainGlobals "_law_draw" = some (some (.ref f1)))
    (l1 : K.lookup f1 = some ⟨oc1, od1, .func (PySem.W.fnOf "_law_draw" "_law_draw" (defArgs s_law_draw) (defBody s_law_draw) (defScope s_law_draw) .none kV1 dc1 pm1 an1 cd1 ct1), sl1⟩)
    (c1 : PySem.W.codeIn K cd1 "_law_draw" = true) (k1 : PySem.W.keepIn K (.ref f1) = true)
    (a2 : PySem.W.nsIn K mainGlobals "_law_walker" = some (some (.ref f2)))
    (l2 : K.lookup f2 = some ⟨oc2, od2, .func (PySem.W.fnOf "_law_walker" "_law_walker" (defArgs s_law_walker) (defBody s_law_walker) (defScope s_law_walker) .none kV2 dc2 pm2 an2 cd2 ct2), sl2⟩)
    (c2 : PySem.W.codeIn K cd2 "_law_walker" = true) (k2 : PySem.W.keepIn K (.ref f2) = true)
    (a3 : PySem.W.nsIn K mainGlobals "is_natural" = some (some (.ref f3)))
    (l3 : K.lookup f3 = some ⟨oc3, od3, .func (PySem.W.fnOf "is_natural" "is_natural" (defArgs s_is_natural) (defBody s_is_natural) (defScope s_is_natural) .none kV3 dc3 pm3 an3 cd3 ct3), sl3⟩)
    (c3 : PySem.W.codeIn K cd3 "is_natural" = true) (k3 : PySem.W.keepIn K (.ref f3) = true)
    (a4 : PySem.W.nsIn K mainGlobals "is_room" = some (some (.ref f4)))
    (l4 : K.lookup f4 = some ⟨oc4, od4, .func (PySem.W.fnOf "is_room" "is_room" (defArgs s_is_room) (defBody s_is_room) (defScope s_is_room) .none kV4 dc4 pm4 an4 cd4 ct4), sl4⟩)
    (c4 : PySem.W.codeIn K cd4 "is_room" = true) (k4 : PySem.W.keepIn K (.ref f4) = true)
    (a5 : PySem.W.nsIn K mainGlobals "is_walker_step" = some (some (.ref f5)))
    (l5 : K.lookup f5 = some ⟨oc5, od5, .func (PySem.W.fnOf "is_walker_step" "is_walker_step" (defArgs s_is_walker_step) (defBody s_is_walker_step) (defScope s_is_walker_step) .none kV5 dc5 pm5 an5 cd5 ct5), sl5⟩)
    (c5 : PySem.W.codeIn K cd5 "is_walker_step" = true) (k5 : PySem.W.keepIn K (.ref f5) = true)
    (a6 : PySem.W.nsIn K mainGlobals "is_walker_test" = some (some (.ref f6)))
    (l6 : K.lookup f6 = some ⟨oc6, od6, .func (PySem.W.fnOf "is_walker_test" "is_walker_test" (defArgs s_is_walker_test) (defBody s_is_walker_test) (defScope s_is_walker_test) .none kV6 dc6 pm6 an6 cd6 ct6), sl6⟩)
    (c6 : PySem.W.codeIn K cd6 "is_walker_test" = true) (k6 : PySem.W.keepIn K (.ref f6) = true)
    (a7 : PySem.W.nsIn K mainGlobals "is_walker" = some (some (.ref f7)))
    (l7 : K.lookup f7 = some ⟨oc7, od7, .func (PySem.W.fnOf "is_walker" "is_walker" (defArgs s_is_walker) (defBody s_is_walker) (defScope s_is_walker) .none kV7 dc7 pm7 an7 cd7 ct7), sl7⟩)
    (c7 : PySem.W.codeIn K cd7 "is_walker" = true) (k7 : PySem.W.keepIn K (.ref f7) = true)
    (a8 : PySem.W.nsIn K mainGlobals "check_walker" = some (some (.ref f8)))
    (l8 : K.lookup f8 = some ⟨oc8, od8, .func (PySem.W.fnOf "check_walker" "check_walker" (defArgs s_check_walker) (defBody s_check_walker) (defScope s_check_walker) .none kV8 dc8 pm8 an8 cd8 ct8), sl8⟩)
    (c8 : PySem.W.codeIn K cd8 "check_walker" = true) (k8 : PySem.W.keepIn K (.ref f8) = true)
    (a9 : PySem.W.nsIn K mainGlobals "turn_walker" = some (some (.ref f9)))
    (l9 : K.lookup f9 = some ⟨oc9, od9, .func (PySem.W.fnOf "turn_walker" "turn_walker" (defArgs s_turn_walker) (defBody s_turn_walker) (defScope s_turn_walker) .none kV9 dc9 pm9 an9 cd9 ct9), sl9⟩)
    (c9 : PySem.W.codeIn K cd9 "turn_walker" = true) (k9 : PySem.W.keepIn K (.ref f9) = true)
    (a10 : PySem.W.nsIn K mainGlobals "turned_walker" = some (some (.ref f10)))
    (l10 : K.lookup f10 = some ⟨oc10, od10, .func (PySem.W.fnOf "turned_walker" "turned_walker" (defArgs s_turned_walker) (defBody s_turned_walker) (defScope s_turned_walker) .none kV10 dc10 pm10 an10 cd10 ct10), sl10⟩)
    (c10 : PySem.W.codeIn K cd10 "turned_walker" = true) (k10 : PySem.W.keepIn K (.ref f10) = true)
    (a11 : PySem.W.nsIn K mainGlobals "is_spot" = some (some (.ref f11)))
    (l11 : K.lookup f11 = some ⟨oc11, od11, .func (PySem.W.fnOf "is_spot" "is_spot" (defArgs s_is_spot) (defBody s_is_spot) (defScope s_is_spot) .none kV11 dc11 pm11 an11 cd11 ct11), sl11⟩)
    (c11 : PySem.W.codeIn K cd11 "is_spot" = true) (k11 : PySem.W.keepIn K (.ref f11) = true)
    (a12 : PySem.W.nsIn K mainGlobals "check_spot" = some (some (.ref f12)))
    (l12 : K.lookup f12 = some ⟨oc12, od12, .func (PySem.W.fnOf "check_spot" "check_spot" (defArgs s_check_spot) (defBody s_check_spot) (defScope s_check_spot) .none kV12 dc12 pm12 an12 cd12 ct12), sl12⟩)
    (c12 : PySem.W.codeIn K cd12 "check_spot" = true) (k12 : PySem.W.keepIn K (.ref f12) = true)
    (a13 : PySem.W.nsIn K mainGlobals "led_from" = some (some (.ref f13)))
    (l13 : K.lookup f13 = some ⟨oc13, od13, .func (PySem.W.fnOf "led_from" "led_from" (defArgs s_led_from) (defBody s_led_from) (defScope s_led_from) .none kV13 dc13 pm13 an13 cd13 ct13), sl13⟩)
    (c13 : PySem.W.codeIn K cd13 "led_from" = true) (k13 : PySem.W.keepIn K (.ref f13) = true)
    (a14 : PySem.W.nsIn K mainGlobals "count_of_moves" = some (some (.ref f14)))
    (l14 : K.lookup f14 = some ⟨oc14, od14, .func (PySem.W.fnOf "count_of_moves" "count_of_moves" (defArgs s_count_of_moves) (defBody s_count_of_moves) (defScope s_count_of_moves) .none kV14 dc14 pm14 an14 cd14 ct14), sl14⟩)
    (c14 : PySem.W.codeIn K cd14 "count_of_moves" = true) (k14 : PySem.W.keepIn K (.ref f14) = true)
    (a15 : PySem.W.nsIn K mainGlobals "all_moves" = some (some (.ref f15)))
    (l15 : K.lookup f15 = some ⟨oc15, od15, .func (PySem.W.fnOf "all_moves" "all_moves" (defArgs s_all_moves) (defBody s_all_moves) (defScope s_all_moves) .none kV15 dc15 pm15 an15 cd15 ct15), sl15⟩)
    (c15 : PySem.W.codeIn K cd15 "all_moves" = true) (k15 : PySem.W.keepIn K (.ref f15) = true)
    (a16 : PySem.W.nsIn K mainGlobals "moves_at" = some (some (.ref f16)))
    (l16 : K.lookup f16 = some ⟨oc16, od16, .func (PySem.W.fnOf "moves_at" "moves_at" (defArgs s_moves_at) (defBody s_moves_at) (defScope s_moves_at) .none kV16 dc16 pm16 an16 cd16 ct16), sl16⟩)
    (c16 : PySem.W.codeIn K cd16 "moves_at" = true) (k16 : PySem.W.keepIn K (.ref f16) = true)
    (a17 : PySem.W.nsIn K mainGlobals "_law_numbers" = some (some (.ref f17)))
    (l17 : K.lookup f17 = some ⟨oc17, od17, .func (PySem.W.fnOf "_law_numbers" "_law_numbers" (defArgs s_law_numbers) (defBody s_law_numbers) (defScope s_law_numbers) .none kV17 dc17 pm17 an17 cd17 ct17), sl17⟩)
    (c17 : PySem.W.codeIn K cd17 "_law_numbers" = true) (k17 : PySem.W.keepIn K (.ref f17) = true)
    (a18 : PySem.W.nsIn K mainGlobals "_law_all_equal" = some (some (.ref f18)))
    (l18 : K.lookup f18 = some ⟨oc18, od18, .func (PySem.W.fnOf "_law_all_equal" "_law_all_equal" (defArgs s_law_all_equal) (defBody s_law_all_equal) (defScope s_law_all_equal) .none kV18 dc18 pm18 an18 cd18 ct18), sl18⟩)
    (c18 : PySem.W.codeIn K cd18 "_law_all_equal" = true) (k18 : PySem.W.keepIn K (.ref f18) = true)
    (a19 : PySem.W.nsIn K mainGlobals "_law_equal" = some (some (.ref f19)))
    (l19 : K.lookup f19 = some ⟨oc19, od19, .func (PySem.W.fnOf "_law_equal" "_law_equal" (defArgs s_law_equal) (defBody s_law_equal) (defScope s_law_equal) .none kV19 dc19 pm19 an19 cd19 ct19), sl19⟩)
    (c19 : PySem.W.codeIn K cd19 "_law_equal" = true) (k19 : PySem.W.keepIn K (.ref f19) = true)
    (a20 : PySem.W.nsIn K mainGlobals "_law_moves" = some (some (.ref f20)))
    (l20 : K.lookup f20 = some ⟨oc20, od20, .func (PySem.W.fnOf "_law_moves" "_law_moves" (defArgs s_law_moves) (defBody s_law_moves) (defScope s_law_moves) .none kV20 dc20 pm20 an20 cd20 ct20), sl20⟩)
    (c20 : PySem.W.codeIn K cd20 "_law_moves" = true) (k20 : PySem.W.keepIn K (.ref f20) = true)
    (a21 : PySem.W.nsIn K mainGlobals "led_along" = some (some (.ref f21)))
    (l21 : K.lookup f21 = some ⟨oc21, od21, .func (PySem.W.fnOf "led_along" "led_along" (defArgs s_led_along) (defBody s_led_along) (defScope s_led_along) .none kV21 dc21 pm21 an21 cd21 ct21), sl21⟩)
    (c21 : PySem.W.codeIn K cd21 "led_along" = true) (k21 : PySem.W.keepIn K (.ref f21) = true)
    (a22 : PySem.W.nsIn K mainGlobals "is_word_of" = some (some (.ref f22)))
    (l22 : K.lookup f22 = some ⟨oc22, od22, .func (PySem.W.fnOf "is_word_of" "is_word_of" (defArgs s_is_word_of) (defBody s_is_word_of) (defScope s_is_word_of) .none kV22 dc22 pm22 an22 cd22 ct22), sl22⟩)
    (c22 : PySem.W.codeIn K cd22 "is_word_of" = true) (k22 : PySem.W.keepIn K (.ref f22) = true)
    (a23 : PySem.W.nsIn K mainGlobals "walked_by" = some (some (.ref f23)))
    (l23 : K.lookup f23 = some ⟨oc23, od23, .func (PySem.W.fnOf "walked_by" "walked_by" (defArgs s_walked_by) (defBody s_walked_by) (defScope s_walked_by) .none kV23 dc23 pm23 an23 cd23 ct23), sl23⟩)
    (c23 : PySem.W.codeIn K cd23 "walked_by" = true) (k23 : PySem.W.keepIn K (.ref f23) = true)
    (a24 : PySem.W.nsIn K mainGlobals "_law_turned" = some (some (.ref f24)))
    (l24 : K.lookup f24 = some ⟨oc24, od24, .func (PySem.W.fnOf "_law_turned" "_law_turned" (defArgs s_law_turned) (defBody s_law_turned) (defScope s_law_turned) .none kV24 dc24 pm24 an24 cd24 ct24), sl24⟩)
    (c24 : PySem.W.codeIn K cd24 "_law_turned" = true) (k24 : PySem.W.keepIn K (.ref f24) = true)
    (a25 : PySem.W.nsIn K mainGlobals "law" = some (some (.ref f25)))
    (l25 : K.lookup f25 = some ⟨oc25, od25, .func (PySem.W.fnOf "law" "law" (defArgs s_law) (defBody s_law) (defScope s_law) .none kV25 dc25 pm25 an25 cd25 ct25), sl25⟩)
    (c25 : PySem.W.codeIn K cd25 "law" = true) (k25 : PySem.W.keepIn K (.ref f25) = true)
    (aC0 : PySem.W.nsIn K mainGlobals "BadProgram" = some (some (.ref C0))) (q0 : PySem.W.excIn K C0 [.type "ValueError", .type "Exception", .type "BaseException", .type "object"] "ValueError.__new__" = true) (kC0 : PySem.W.keepIn K (.ref C0) = true) (sC0 : PySem.W.subIn K (.ref C0) (.type "BaseException") = some true) (tC0 : PySem.W.typeIn K (.ref C0) = some (.type "type")) (iC0 : PySem.W.isClsIn K C0 = true)
    (aC1 : PySem.W.nsIn K mainGlobals "BadStanding" = some (some (.ref C1))) (q1 : PySem.W.excIn K C1 [.type "ValueError", .type "Exception", .type "BaseException", .type "object"] "ValueError.__new__" = true) (kC1 : PySem.W.keepIn K (.ref C1) = true) (sC1 : PySem.W.subIn K (.ref C1) (.type "BaseException") = some true) (tC1 : PySem.W.typeIn K (.ref C1) = some (.type "type")) (iC1 : PySem.W.isClsIn K C1 = true)
    (aC2 : PySem.W.nsIn K mainGlobals "BadArgument" = some (some (.ref C2))) (q2 : PySem.W.excIn K C2 [.type "ValueError", .type "Exception", .type "BaseException", .type "object"] "ValueError.__new__" = true) (kC2 : PySem.W.keepIn K (.ref C2) = true) (sC2 : PySem.W.subIn K (.ref C2) (.type "BaseException") = some true) (tC2 : PySem.W.typeIn K (.ref C2) = some (.type "type")) (iC2 : PySem.W.isClsIn K C2 = true)
    (u0_0 : PySem.W.subIn K (.ref C0) (.ref C0) = some true)
    (u0_1 : PySem.W.subIn K (.ref C0) (.ref C1) = some false)
    (u0_2 : PySem.W.subIn K (.ref C0) (.ref C2) = some false)
    (u1_0 : PySem.W.subIn K (.ref C1) (.ref C0) = some false)
    (u1_1 : PySem.W.subIn K (.ref C1) (.ref C1) = some true)
    (u1_2 : PySem.W.subIn K (.ref C1) (.ref C2) = some false)
    (u2_0 : PySem.W.subIn K (.ref C2) (.ref C0) = some false)
    (u2_1 : PySem.W.subIn K (.ref C2) (.ref C1) = some false)
    (u2_2 : PySem.W.subIn K (.ref C2) (.ref C2) = some true)
    (z_bool : PySem.W.nsIn K mainGlobals "bool" = some none)
    (z_int : PySem.W.nsIn K mainGlobals "int" = some none)
    (z_isinstance : PySem.W.nsIn K mainGlobals "isinstance" = some none)
    (z_len : PySem.W.nsIn K mainGlobals "len" = some none)
    (z_list : PySem.W.nsIn K mainGlobals "list" = some none)
    (z_range : PySem.W.nsIn K mainGlobals "range" = some none)
    (z_str : PySem.W.nsIn K mainGlobals "str" = some none)
    (z_sum : PySem.W.nsIn K mainGlobals "sum" = some none)
    (z_tuple : PySem.W.nsIn K mainGlobals "tuple" = some none)
    (v_MOST_CHANGE : PySem.W.nsIn K mainGlobals "MOST_CHANGE" = some (some (.int 3 t_MOST_CHANGE)))
    (v_MOST_ROOMS : PySem.W.nsIn K mainGlobals "MOST_ROOMS" = some (some (.int 8 t_MOST_ROOMS)))
    (v_MOST_STEPS : PySem.W.nsIn K mainGlobals "MOST_STEPS" = some (some (.int 16 t_MOST_STEPS)))
    (v_MOST_TESTS : PySem.W.nsIn K mainGlobals "MOST_TESTS" = some (some (.int 6 t_MOST_TESTS))) :
    ∃ fd : FuncData, (∀ (s : Shared) (v : Value), BindsTo s fd ⟨[v], []⟩ [("script", v)]) ∧ ∀ base : Heap, K.In base → base.Ns mainGlobals mg → FnOk l.prog w K mg base (L2.CX l.prog w) 41 fa fd ["script"] (spLaw K) := by
  have e := hfa.symm.trans (PySem.W.mg_of X G a25)
  cases e
  have F0 := fun_mk (st := s_law_mixed) l0 c0 k0
  have D0 : Df K mg "_law_mixed" s_law_mixed ["number", "k"] := ⟨_, _, F0, PySem.W.mg_of X G a0, F0.binds (ps := ["number", "k"]) fun _ _ _ _ _ _ us hl => match us, hl with | [_, _], _ => rfl⟩
  have F1 := fun_mk (st := s_law_draw) l1 c1 k1
  have D1 : Df K mg "_law_draw" s_law_draw ["draws", "many"] := ⟨_, _, F1, PySem.W.mg_of X G a1, F1.binds (ps := ["draws", "many"]) fun _ _ _ _ _ _ us hl => match us, hl with | [_, _], _ => rfl⟩
  have F2 := fun_mk (st := s_law_walker) l2 c2 k2
  have D2 : Df K mg "_law_walker" s_law_walker ["draws", "most"] := ⟨_, _, F2, PySem.W.mg_of X G a2, F2.binds (ps := ["draws", "most"]) fun _ _ _ _ _ _ us hl => match us, hl with | [_, _], _ => rfl⟩
  have F3 := fun_mk (st := s_is_natural) l3 c3 k3
  have D3 : Df K mg "is_natural" s_is_natural ["value"] := ⟨_, _, F3, PySem.W.mg_of X G a3, F3.binds (ps := ["value"]) fun _ _ _ _ _ _ us hl => match us, hl with | [_], _ => rfl⟩
  have F4 := fun_mk (st := s_is_room) l4 c4 k4
  have D4 : Df K mg "is_room" s_is_room ["value", "rooms"] := ⟨_, _, F4, PySem.W.mg_of X G a4, F4.binds (ps := ["value", "rooms"]) fun _ _ _ _ _ _ us hl => match us, hl with | [_, _], _ => rfl⟩
  have F5 := fun_mk (st := s_is_walker_step) l5 c5 k5
  have D5 : Df K mg "is_walker_step" s_is_walker_step ["value", "rooms"] := ⟨_, _, F5, PySem.W.mg_of X G a5, F5.binds (ps := ["value", "rooms"]) fun _ _ _ _ _ _ us hl => match us, hl with | [_, _], _ => rfl⟩
  have F6 := fun_mk (st := s_is_walker_test) l6 c6 k6
  have D6 : Df K mg "is_walker_test" s_is_walker_test ["value", "rooms"] := ⟨_, _, F6, PySem.W.mg_of X G a6, F6.binds (ps := ["value", "rooms"]) fun _ _ _ _ _ _ us hl => match us, hl with | [_, _], _ => rfl⟩
  have F7 := fun_mk (st := s_is_walker) l7 c7 k7
  have D7 : Df K mg "is_walker" s_is_walker ["value"] := ⟨_, _, F7, PySem.W.mg_of X G a7, F7.binds (ps := ["value"]) fun _ _ _ _ _ _ us hl => match us, hl with | [_], _ => rfl⟩
  have F8 := fun_mk (st := s_check_walker) l8 c8 k8
  have D8 : Df K mg "check_walker" s_check_walker ["value"] := ⟨_, _, F8, PySem.W.mg_of X G a8, F8.binds (ps := ["value"]) fun _ _ _ _ _ _ us hl => match us, hl with | [_], _ => rfl⟩
  have F9 := fun_mk (st := s_turn_walker) l9 c9 k9
  have D9 : Df K mg "turn_walker" s_turn_walker ["walker"] := ⟨_, _, F9, PySem.W.mg_of X G a9, F9.binds (ps := ["walker"]) fun _ _ _ _ _ _ us hl => match us, hl with | [_], _ => rfl⟩
  have F10 := fun_mk (st := s_turned_walker) l10 c10 k10
  have D10 : Df K mg "turned_walker" s_turned_walker ["walker"] := ⟨_, _, F10, PySem.W.mg_of X G a10, F10.binds (ps := ["walker"]) fun _ _ _ _ _ _ us hl => match us, hl with | [_], _ => rfl⟩
  have F11 := fun_mk (st := s_is_spot) l11 c11 k11
  have D11 : Df K mg "is_spot" s_is_spot ["walker", "value"] := ⟨_, _, F11, PySem.W.mg_of X G a11, F11.binds (ps := ["walker", "value"]) fun _ _ _ _ _ _ us hl => match us, hl with | [_, _], _ => rfl⟩
  have F12 := fun_mk (st := s_check_spot) l12 c12 k12
  have D12 : Df K mg "check_spot" s_check_spot ["walker", "value"] := ⟨_, _, F12, PySem.W.mg_of X G a12, F12.binds (ps := ["walker", "value"]) fun _ _ _ _ _ _ us hl => match us, hl with | [_, _], _ => rfl⟩
  have F13 := fun_mk (st := s_led_from) l13 c13 k13
  have D13 : Df K mg "led_from" s_led_from ["walker", "place", "move"] := ⟨_, _, F13, PySem.W.mg_of X G a13, F13.binds (ps := ["walker", "place", "move"]) fun _ _ _ _ _ _ us hl => match us, hl with | [_, _, _], _ => rfl⟩
  have F14 := fun_mk (st := s_count_of_moves) l14 c14 k14
  have D14 : Df K mg "count_of_moves" s_count_of_moves ["walker"] := ⟨_, _, F14, PySem.W.mg_of X G a14, F14.binds (ps := ["walker"]) fun _ _ _ _ _ _ us hl => match us, hl with | [_], _ => rfl⟩
  have F15 := fun_mk (st := s_all_moves) l15 c15 k15
  have D15 : Df K mg "all_moves" s_all_moves ["walker", "place"] := ⟨_, _, F15, PySem.W.mg_of X G a15, F15.binds (ps := ["walker", "place"]) fun _ _ _ _ _ _ us hl => match us, hl with | [_, _], _ => rfl⟩
  have F16 := fun_mk (st := s_moves_at) l16 c16 k16
  have D16 : Df K mg "moves_at" s_moves_at ["walker", "place"] := ⟨_, _, F16, PySem.W.mg_of X G a16, F16.binds (ps := ["walker", "place"]) fun _ _ _ _ _ _ us hl => match us, hl with | [_, _], _ => rfl⟩
  have F17 := fun_mk (st := s_law_numbers) l17 c17 k17
  have D17 : Df K mg "_law_numbers" s_law_numbers ["script"] := ⟨_, _, F17, PySem.W.mg_of X G a17, F17.binds (ps := ["script"]) fun _ _ _ _ _ _ us hl => match us, hl with | [_], _ => rfl⟩
  have F18 := fun_mk (st := s_law_all_equal) l18 c18 k18
  have D18 : Df K mg "_law_all_equal" s_law_all_equal ["actual", "due"] := ⟨_, _, F18, PySem.W.mg_of X G a18, F18.binds (ps := ["actual", "due"]) fun _ _ _ _ _ _ us hl => match us, hl with | [_, _], _ => rfl⟩
  have F19 := fun_mk (st := s_law_equal) l19 c19 k19
  have D19 : Df K mg "_law_equal" s_law_equal ["actual", "due"] := ⟨_, _, F19, PySem.W.mg_of X G a19, F19.binds (ps := ["actual", "due"]) fun _ _ _ _ _ _ us hl => match us, hl with | [_, _], _ => rfl⟩
  have F20 := fun_mk (st := s_law_moves) l20 c20 k20
  have D20 : Df K mg "_law_moves" s_law_moves ["walker", "place"] := ⟨_, _, F20, PySem.W.mg_of X G a20, F20.binds (ps := ["walker", "place"]) fun _ _ _ _ _ _ us hl => match us, hl with | [_, _], _ => rfl⟩
  have F21 := fun_mk (st := s_led_along) l21 c21 k21
  have D21 : Df K mg "led_along" s_led_along ["walker", "place", "word"] := ⟨_, _, F21, PySem.W.mg_of X G a21, F21.binds (ps := ["walker", "place", "word"]) fun _ _ _ _ _ _ us hl => match us, hl with | [_, _, _], _ => rfl⟩
  have F22 := fun_mk (st := s_is_word_of) l22 c22 k22
  have D22 : Df K mg "is_word_of" s_is_word_of ["walker", "value"] := ⟨_, _, F22, PySem.W.mg_of X G a22, F22.binds (ps := ["walker", "value"]) fun _ _ _ _ _ _ us hl => match us, hl with | [_, _], _ => rfl⟩
  have F23 := fun_mk (st := s_walked_by) l23 c23 k23
  have D23 : Df K mg "walked_by" s_walked_by ["walker", "place", "word"] := ⟨_, _, F23, PySem.W.mg_of X G a23, F23.binds (ps := ["walker", "place", "word"]) fun _ _ _ _ _ _ us hl => match us, hl with | [_, _, _], _ => rfl⟩
  have F24 := fun_mk (st := s_law_turned) l24 c24 k24
  have D24 : Df K mg "_law_turned" s_law_turned ["walker"] := ⟨_, _, F24, PySem.W.mg_of X G a24, F24.binds (ps := ["walker"]) fun _ _ _ _ _ _ us hl => match us, hl with | [_], _ => rfl⟩
  have F25 := fun_mk (st := s_law) l25 c25 k25
  have T : Tx K mg (fun n => match n with | 0 => .ref C0 | 1 => .ref C1 | _ => .ref C2) := {
    n_bool := PySem.W.mg_none_of X G z_bool
    n_int := PySem.W.mg_none_of X G z_int
    n_isinstance := PySem.W.mg_none_of X G z_isinstance
    n_len := PySem.W.mg_none_of X G z_len
    n_list := PySem.W.mg_none_of X G z_list
    n_range := PySem.W.mg_none_of X G z_range
    n_str := PySem.W.mg_none_of X G z_str
    n_sum := PySem.W.mg_none_of X G z_sum
    n_tuple := PySem.W.mg_none_of X G z_tuple
    c_MOST_CHANGE := ⟨_, PySem.W.mg_of X G v_MOST_CHANGE⟩
    c_MOST_ROOMS := ⟨_, PySem.W.mg_of X G v_MOST_ROOMS⟩
    c_MOST_STEPS := ⟨_, PySem.W.mg_of X G v_MOST_STEPS⟩
    c_MOST_TESTS := ⟨_, PySem.W.mg_of X G v_MOST_TESTS⟩
    e_0 := ⟨C0, rfl, PySem.W.mg_of X G aC0, q0, kC0, sC0, tC0⟩
    x_0 := fun m hm => match m, hm with | 0, _ => exm_of sC0 iC0 tC0 u0_0 | 1, _ => exm_of sC0 iC0 tC0 u1_0 | 2, _ => exm_of sC0 iC0 tC0 u2_0
    g_0 := PySem.W.mg_of X G aC0
    e_1 := ⟨C1, rfl, PySem.W.mg_of X G aC1, q1, kC1, sC1, tC1⟩
    x_1 := fun m hm => match m, hm with | 0, _ => exm_of sC1 iC1 tC1 u0_1 | 1, _ => exm_of sC1 iC1 tC1 u1_1 | 2, _ => exm_of sC1 iC1 tC1 u2_1
    g_1 := PySem.W.mg_of X G aC1
    e_2 := ⟨C2, rfl, PySem.W.mg_of X G aC2, q2, kC2, sC2, tC2⟩
    x_2 := fun m hm => match m, hm with | 0, _ => exm_of sC2 iC2 tC2 u0_2 | 1, _ => exm_of sC2 iC2 tC2 u1_2 | 2, _ => exm_of sC2 iC2 tC2 u2_2
    g_2 := PySem.W.mg_of X G aC2
  }
  refine ⟨PySem.W.fnOf "law" "law" (defArgs s_law) (defBody s_law) (defScope s_law) .none kV25 dc25 pm25 an25 cd25 ct25, fun s v => .of_eq rfl, fun base _ _ => ?_⟩
  have K_law_mixed := ok_law_mixed (P := l.prog) (w := w) (base := base) T D0 
  have K_law_draw := ok_law_draw (P := l.prog) (w := w) (base := base) T D1 (k_law_mixed := K_law_mixed)
  have K_law_walker := ok_law_walker (P := l.prog) (w := w) (base := base) T D2 (k_law_draw := K_law_draw)
  have K_is_natural := ok_is_natural (P := l.prog) (w := w) (base := base) T D3 
  have K_is_room := ok_is_room (P := l.prog) (w := w) (base := base) T D4 (k_is_natural := K_is_natural)
  have K_is_walker_step := ok_is_walker_step (P := l.prog) (w := w) (base := base) T D5 (k_is_room := K_is_room)
  have K_is_walker_test := ok_is_walker_test (P := l.prog) (w := w) (base := base) T D6 (k_is_room := K_is_room)
  have K_is_walker := ok_is_walker (P := l.prog) (w := w) (base := base) T D7 (k_is_natural := K_is_natural) (k_is_walker_step := K_is_walker_step) (k_is_walker_test := K_is_walker_test)
  have K_check_walker := ok_check_walker (P := l.prog) (w := w) (base := base) T D8 (k_is_walker := K_is_walker)
  have K_turn_walker := ok_turn_walker (P := l.prog) (w := w) (base := base) T D9 
  have K_turned_walker := ok_turned_walker (P := l.prog) (w := w) (base := base) T D10 (k_check_walker := K_check_walker) (k_turn_walker := K_turn_walker)
  have K_is_spot := ok_is_spot (P := l.prog) (w := w) (base := base) T D11 (k_is_room := K_is_room) (k_is_natural := K_is_natural)
  have K_check_spot := ok_check_spot (P := l.prog) (w := w) (base := base) T D12 (k_is_spot := K_is_spot)
  have K_led_from := ok_led_from (P := l.prog) (w := w) (base := base) T D13 
  have K_count_of_moves := ok_count_of_moves (P := l.prog) (w := w) (base := base) T D14 
  have K_all_moves := ok_all_moves (P := l.prog) (w := w) (base := base) T D15 (k_count_of_moves := K_count_of_moves) (k_led_from := K_led_from)
  have K_moves_at := ok_moves_at (P := l.prog) (w := w) (base := base) T D16 (k_check_walker := K_check_walker) (k_check_spot := K_check_spot) (k_all_moves := K_all_moves)
  have K_law_numbers := ok_law_numbers (P := l.prog) (w := w) (base := base) T D17 (k_law_mixed := K_law_mixed) numbers_ok
  have K_law_equal := ok_law_equal40 (P := l.prog) (w := w) (base := base) T D19 D18
  have K_law_moves := ok_law_moves (P := l.prog) (w := w) (base := base) T D20 
  have K_led_along := ok_led_along (P := l.prog) (w := w) (base := base) T D21 (k_led_from := K_led_from)
  have K_is_word_of := ok_is_word_of (P := l.prog) (w := w) (base := base) T D22 (k_is_natural := K_is_natural) (k_count_of_moves := K_count_of_moves)
  have K_walked_by := ok_walked_by (P := l.prog) (w := w) (base := base) T D23 (k_check_walker := K_check_walker) (k_check_spot := K_check_spot) (k_is_word_of := K_is_word_of) (k_led_along := K_led_along)
  have K_law_turned := ok_law_turned (P := l.prog) (w := w) (base := base) T D24 
  exact ok_law T F25 K_law_numbers (k_law_walker := K_law_walker) (k_law_draw := K_law_draw) (k_turned_walker := K_turned_walker) (k_law_equal := K_law_equal) (k_law_turned := K_law_turned) (k_moves_at := K_moves_at) (k_law_moves := K_law_moves) (k_walked_by := K_walked_by) law_runs
end
end K
open PySem PySem.W PyProof.Rows
set_option maxRecDepth 100000 in
set_option maxHeartbeats 0 in
theorem PySem.Challenge.cw_everypurse_k10_moves_of_walkers_holds : PySem.Challenge.rw_everypurse_k10_moves_of_walkers.Holds := by
  w_on; o_law; k_head; (case hw => w_witness2)
  k_fill
  refine L2.walk_of (l := PySem.Challenge.rw_everypurse_k10_moves_of_walkers) (n := 63) (k := 41) (x := "script") (CX := fun w => L2.CX (PySem.Challenge.rw_everypurse_k10_moves_of_walkers).prog w) (sp := fun w => DL.spLaw _) rfl (by decide) rfl ⟨rfl, by decide, by decide⟩ (fun w h Y => PySem.W.kIn_of Y) ?F (fun w H a ns hl ho hS => ⟨a, ns, rfl, hS, hl, ho, fun _ => rfl⟩) (fun _ _ _ _ _ h => K.cx_no h)
  case F =>
    intro w mg fa h KX G hmg
    refine' K.all_mk KX G hmg ?a0 ?l0 ?c0 ?k0 ?a1 ?l1 ?c1 ?k1 ?a2 ?l2 ?c2 ?k2 ?a3 ?l3 ?c3 ?k3 ?a4 ?l4 ?c4 ?k4 ?a5 ?l5 ?c5 ?k5 ?a6 ?l6 ?c6 ?k6 ?a7 ?l7 ?c7 ?k7 ?a8 ?l8 ?c8 ?k8 ?a9 ?l9 ?c9 ?k9 ?a10 ?l10 ?c10 ?k10 ?a11 ?l11 ?c11 ?k11 ?a12 ?l12 ?c12 ?k12 ?a13 ?l13 ?c13 ?k13 ?a14 ?l14 ?c14 ?k14 ?a15 ?l15 ?c15 ?k15 ?a16 ?l16 ?c16 ?k16 ?a17 ?l17 ?c17 ?k17 ?a18 ?l18 ?c18 ?k18 ?a19 ?l19 ?c19 ?k19 ?a20 ?l20 ?c20 ?k20 ?a21 ?l21 ?c21 ?k21 ?a22 ?l22 ?c22 ?k22 ?a23 ?l23 ?c23 ?k23 ?a24 ?l24 ?c24 ?k24 ?a25 ?l25 ?c25 ?k25 ?aC0 ?q0 ?kC0 ?sC0 ?tC0 ?iC0 ?aC1 ?q1 ?kC1 ?sC1 ?tC1 ?iC1 ?aC2 ?q2 ?kC2 ?sC2 ?tC2 ?iC2 ?u0_0 ?u0_1 ?u0_2 ?u1_0 ?u1_1 ?u1_2 ?u2_0 ?u2_1 ?u2_2 ?z_bool ?z_int ?z_isinstance ?z_len ?z_list ?z_range ?z_str ?z_sum ?z_tuple ?v_MOST_CHANGE ?v_MOST_ROOMS ?v_MOST_STEPS ?v_MOST_TESTS
    (case a0 => k_is)
    (case l0 => k_is)
    (case c0 => k_is)
    (case k0 => k_is)
    (case a1 => k_is)
    (case l1 => k_is)
    (case c1 => k_is)
    (case k1 => k_is)
    (case a2 => k_is)
    (case l2 => k_is)
    (case c2 => k_is)
    (case k2 => k_is)
    (case a3 => k_is)
    (case l3 => k_is)
    (case c3 => k_is)
    (case k3 => k_is)
    (case a4 => k_is)
    (case l4 => k_is)
    (case c4 => k_is)
    (case k4 => k_is)
    (case a5 => k_is)
    (case l5 => k_is)
    (case c5 => k_is)
    (case k5 => k_is)
    (case a6 => k_is)
    (case l6 => k_is)
    (case c6 => k_is)
    (case k6 => k_is)
    (case a7 => k_is)
    (case l7 => k_is)
    (case c7 => k_is)
    (case k7 => k_is)
    (case a8 => k_is)
    (case l8 => k_is)
    (case c8 => k_is)
    (case k8 => k_is)
    (case a9 => k_is)
    (case l9 => k_is)
    (case c9 => k_is)
    (case k9 => k_is)
    (case a10 => k_is)
    (case l10 => k_is)
    (case c10 => k_is)
    (case k10 => k_is)
    (case a11 => k_is)
    (case l11 => k_is)
    (case c11 => k_is)
    (case k11 => k_is)
    (case a12 => k_is)
    (case l12 => k_is)
    (case c12 => k_is)
    (case k12 => k_is)
    (case a13 => k_is)
    (case l13 => k_is)
    (case c13 => k_is)
    (case k13 => k_is)
    (case a14 => k_is)
    (case l14 => k_is)
    (case c14 => k_is)
    (case k14 => k_is)
    (case a15 => k_is)
    (case l15 => k_is)
    (case c15 => k_is)
    (case k15 => k_is)
    (case a16 => k_is)
    (case l16 => k_is)
    (case c16 => k_is)
    (case k16 => k_is)
    (case a17 => k_is)
    (case l17 => k_is)
    (case c17 => k_is)
    (case k17 => k_is)
    (case a18 => k_is)
    (case l18 => k_is)
    (case c18 => k_is)
    (case k18 => k_is)
    (case a19 => k_is)
    (case l19 => k_is)
    (case c19 => k_is)
    (case k19 => k_is)
    (case a20 => k_is)
    (case l20 => k_is)
    (case c20 => k_is)
    (case k20 => k_is)
    (case a21 => k_is)
    (case l21 => k_is)
    (case c21 => k_is)
    (case k21 => k_is)
    (case a22 => k_is)
    (case l22 => k_is)
    (case c22 => k_is)
    (case k22 => k_is)
    (case a23 => k_is)
    (case l23 => k_is)
    (case c23 => k_is)
    (case k23 => k_is)
    (case a24 => k_is)
    (case l24 => k_is)
    (case c24 => k_is)
    (case k24 => k_is)
    (case a25 => k_is)
    (case l25 => k_is)
    (case c25 => k_is)
    (case k25 => k_is)
    (case aC0 => k_is)
    (case q0 => k_exc)
    (case kC0 => k_is)
    (case sC0 => k_is)
    (case tC0 => k_is)
    (case iC0 => k_is)
    (case aC1 => k_is)
    (case q1 => k_exc)
    (case kC1 => k_is)
    (case sC1 => k_is)
    (case tC1 => k_is)
    (case iC1 => k_is)
    (case aC2 => k_is)
    (case q2 => k_exc)
    (case kC2 => k_is)
    (case sC2 => k_is)
    (case tC2 => k_is)
    (case iC2 => k_is)
    (case u0_0 => k_is)
    (case u0_1 => k_is)
    (case u0_2 => k_is)
    (case u1_0 => k_is)
    (case u1_1 => k_is)
    (case u1_2 => k_is)
    (case u2_0 => k_is)
    (case u2_1 => k_is)
    (case u2_2 => k_is)
    (case z_bool => k_is)
    (case z_int => k_is)
    (case z_isinstance => k_is)
    (case z_len => k_is)
    (case z_list => k_is)
    (case z_range => k_is)
    (case z_str => k_is)
    (case z_sum => k_is)
    (case z_tuple => k_is)
    (case v_MOST_CHANGE => k_is)
    (case v_MOST_ROOMS => k_is)
    (case v_MOST_STEPS => k_is)
    (case v_MOST_TESTS => k_is)

