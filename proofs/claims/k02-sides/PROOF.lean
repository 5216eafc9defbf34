import PyProof.Rows.All
import Wide.All
import OpenK.AllK
import Wide.FinOn
import HandS.ForMost
import HandS.ForExc
import HandS.Lambda
import HandS.CallSlots
import HandS.Wide
import HandS.WideMore
import HandS.Gcd
import HandS.IsInst
import HandS.TupAny
import HandS.Style
import HandS.Deep
import KE.DataEq
import KE.DataFind
import HandS.TupSets
import KE.SortData
import PyProof.WalksMore
import HandS.DictComp
import HandS.Conv
import HandS.CallLocal
import HandS.Star
import HandS.Zip
import KE.GoesEnum
import HandS.ExcInit
import KE.KExcSuper
import HandS.TryMany
import HandS.ExcField
import HandS.ExcOwn
import HandS.EndTab
import HandS.EndBits
import PyProof.ReprRoads
import PyProof.CallFns
import HandS.TryOnly
import KE.DataMinMax
import PySem.Challenge.RW_gripsure_k02_sides_areas_and_points_with
set_option Elab.async false
set_option linter.all false
set_option autoImplicit false
set_option maxRecDepth 100000
set_option maxHeartbeats 4000000
/-! DLa: an own layer over HandS: pure data in slots, a store of mutable lists, programs as functions. -/
namespace DL
open PySem PySem.Spec PyProof.Rows L2

/-- what a slot holds -/
inductive DV where
  | d (x : PyData)
  | fn (a : Addr)
  | mr (n : Nat)
  /-- the script -/
  | scr (ns : List Int)
/-- a mutable object -/
inductive MO where
  | lst (xs : List PyData)
/-- an exception: its class's name, its fields -/
structure XD where
  name : Str
  fs : List (Str × PyData)
inductive ER (α : Type) where
  | ok (v : α) (G : List MO)
  | exn (x : XD) (G : List MO)
  | bad
def ER.bind {α β : Type} (r : ER α) (f : α → List MO → ER β) : ER β :=
  match r with
  | .ok v G => f v G
  | .exn x G => .exn x G
  | .bad => .bad
@[simp] theorem ER.bind_ok {α β : Type} (v : α) (G : List MO) (f : α → List MO → ER β) : (ER.ok v G).bind f = f v G := rfl
@[simp] theorem ER.bind_exn {α β : Type} (x : XD) (G : List MO) (f : α → List MO → ER β) : (ER.exn x G : ER α).bind f = .exn x G := rfl
@[simp] theorem ER.bind_bad {α β : Type} (f : α → List MO → ER β) : (ER.bad : ER α).bind f = .bad := rfl

abbrev Sl := List (Option DV)
abbrev Ms := List MO

def keyD : Key → PyData
  | .inl i => .int i
  | .inr x => .str x
/-- a list (a tuple, a dict) that nobody writes any more -/
def Fix (H : Hp) (μ : List Addr) (a : Addr) (u : HO) : Prop := H a = some u ∧ a ∉ μ
abbrev noH : Hp := fun _ => none

mutual
inductive IsP (K : PySem.W.Frag) (H : Hp) (μ : List Addr) : V → PyData → Prop
  | none : IsP K H μ .non .none
  | bool (b : Bool) : IsP K H μ (.bl b) (.bool b)
  | int (i : Int) : IsP K H μ (.int i) (.int i)
  | str (x : Str) : IsP K H μ (.str x) (.str x)
  | tup {a : Addr} {vs : List V} {ds : List PyData} : Fix H μ a (.tup vs) → IsPs K H μ vs ds → IsP K H μ (.ref a) (.tuple ds)
  | tupK {a : Addr} {vs : List V} {ds : List PyData} : SqT K noH a vs → IsPs K H μ vs ds → IsP K H μ (.ref a) (.tuple ds)
  | lst {a : Addr} {vs : List V} {ds : List PyData} : Fix H μ a (.lst vs) → IsPs K H μ vs ds → IsP K H μ (.ref a) (.list ds)
  | dct {a : Addr} {kvs : List (Key × V)} {ds : List (PyData × PyData)} : Fix H μ a (.dK kvs) → IsKs K H μ kvs ds → IsP K H μ (.ref a) (.dict ds)
inductive IsPs (K : PySem.W.Frag) (H : Hp) (μ : List Addr) : List V → List PyData → Prop
  | nil : IsPs K H μ [] []
  | cons {v : V} {d : PyData} {vs : List V} {ds : List PyData} : IsP K H μ v d → IsPs K H μ vs ds → IsPs K H μ (v :: vs) (d :: ds)
inductive IsKs (K : PySem.W.Frag) (H : Hp) (μ : List Addr) : List (Key × V) → List (PyData × PyData) → Prop
  | nil : IsKs K H μ [] []
  | cons {k : Key} {v : V} {d : PyData} {vs : List (Key × V)} {ds : List (PyData × PyData)} : IsP K H μ v d → IsKs K H μ vs ds → IsKs K H μ ((k, v) :: vs) ((keyD k, d) :: ds)
end

/-- not a table of code -/
def Hard : HO → Prop
  | .tbl _ => False
  | _ => True
/-- one step on: what is not of the store is kept (if hard), the store's new objects are new -/
structure Step (μ : List Addr) (H : Hp) (μ' : List Addr) (H' : Hp) : Prop where
  pre : μ <+: μ'
  keep : ∀ a o, a ∉ μ → H a = some o → Hard o → H' a = some o
  new : ∀ a, a ∈ μ' → a ∉ μ → ∀ o, H a = some o → ¬ Hard o
theorem Step.refl (μ : List Addr) (H : Hp) : Step μ H μ H := ⟨List.prefix_refl _, fun _ _ _ e _ => e, fun _ h n => absurd h n⟩
theorem Step.notin {μ μ' : List Addr} {H H' : Hp} (a : Step μ H μ' H') {c : Addr} {o : HO} (n : c ∉ μ) (e : H c = some o) (t : Hard o) : c ∉ μ' := fun h => a.new c h n o e t
theorem Step.trans {μ μ1 μ2 : List Addr} {H H1 H2 : Hp} (a : Step μ H μ1 H1) (b : Step μ1 H1 μ2 H2) : Step μ H μ2 H2 :=
  ⟨a.pre.trans b.pre, fun c o n e t => b.keep c o (a.notin n e t) (a.keep c o n e t) t, fun c h n o e t => b.new c h (a.notin n e t) o (a.keep c o n e t) t⟩

theorem Fix.mono {μ μ' : List Addr} {H H' : Hp} {a : Addr} {u : HO} (f : Fix H μ a u) (t : Hard u) (s : Step μ H μ' H') : Fix H' μ' a u := by
  obtain ⟨e, n⟩ := f
  exact ⟨s.keep a u n e t, s.notin n e t⟩
theorem Fix.sqT {K : PySem.W.Frag} {H : Hp} {μ : List Addr} {a : Addr} {vs : List V} (f : Fix H μ a (.tup vs)) : SqT K H a vs := .inl (.inl f.1)
theorem Fix.sqL {K : PySem.W.Frag} {H : Hp} {μ : List Addr} {a : Addr} {vs : List V} (f : Fix H μ a (.lst vs)) : SqL K H a vs := .inl (.inl f.1)
theorem sqT_of {K : PySem.W.Frag} {H : Hp} {a : Addr} {vs : List V} (h : SqT K noH a vs) : SqT K H a vs := by
  rcases h with (e | ⟨o, e⟩) | h
  · cases e
  · cases e
  · exact .inr h
theorem sqL_of {K : PySem.W.Frag} {H : Hp} {a : Addr} {vs : List V} (h : SqL K noH a vs) : SqL K H a vs := by
  rcases h with (e | ⟨o, e⟩) | h
  · cases e
  · cases e
  · exact .inr h

mutual
theorem IsP.mono {K : PySem.W.Frag} {H H' : Hp} {μ μ' : List Addr} (s : Step μ H μ' H') : ∀ {v : V} {d : PyData}, IsP K H μ v d → IsP K H' μ' v d
  | _, _, .none => .none
  | _, _, .bool b => .bool b
  | _, _, .int i => .int i
  | _, _, .str x => .str x
  | _, _, .tup f h => .tup (f.mono trivial s) (IsPs.mono s h)
  | _, _, .tupK f h => .tupK f (IsPs.mono s h)
  | _, _, .lst f h => .lst (f.mono trivial s) (IsPs.mono s h)
  | _, _, .dct f h => .dct (f.mono trivial s) (IsKs.mono s h)
theorem IsPs.mono {K : PySem.W.Frag} {H H' : Hp} {μ μ' : List Addr} (s : Step μ H μ' H') : ∀ {vs : List V} {ds : List PyData}, IsPs K H μ vs ds → IsPs K H' μ' vs ds
  | _, _, .nil => .nil
  | _, _, .cons a b => .cons (IsP.mono s a) (IsPs.mono s b)
theorem IsKs.mono {K : PySem.W.Frag} {H H' : Hp} {μ μ' : List Addr} (s : Step μ H μ' H') : ∀ {vs : List (Key × V)} {ds : List (PyData × PyData)}, IsKs K H μ vs ds → IsKs K H' μ' vs ds
  | _, _, .nil => .nil
  | _, _, .cons a b => .cons (IsP.mono s a) (IsKs.mono s b)
end
theorem Fix.soft {μ : List Addr} {H : Hp} {a b : Addr} {u o : HO} {φ : Heap → Prop} (f : Fix H μ a u) (h : H b = some (.ext φ)) (n : ∀ ψ, u ≠ .ext ψ) : Fix (upd H b o) μ a u :=
  ⟨by rw [upd_ne (fun z => by rw [z] at f; exact n φ (Option.some.inj (f.1.symm.trans h)))]; exact f.1, f.2⟩
mutual
theorem IsP.soft {K : PySem.W.Frag} {H : Hp} {μ : List Addr} {b : Addr} {o : HO} {φ : Heap → Prop} (h : H b = some (.ext φ)) : ∀ {v : V} {d : PyData}, IsP K H μ v d → IsP K (upd H b o) μ v d
  | _, _, .none => .none
  | _, _, .bool b => .bool b
  | _, _, .int i => .int i
  | _, _, .str x => .str x
  | _, _, .tup f r => .tup (f.soft h fun _ z => nomatch z) (IsPs.soft h r)
  | _, _, .tupK f r => .tupK f (IsPs.soft h r)
  | _, _, .lst f r => .lst (f.soft h fun _ z => nomatch z) (IsPs.soft h r)
  | _, _, .dct f r => .dct (f.soft h fun _ z => nomatch z) (IsKs.soft h r)
theorem IsPs.soft {K : PySem.W.Frag} {H : Hp} {μ : List Addr} {b : Addr} {o : HO} {φ : Heap → Prop} (h : H b = some (.ext φ)) : ∀ {vs : List V} {ds : List PyData}, IsPs K H μ vs ds → IsPs K (upd H b o) μ vs ds
  | _, _, .nil => .nil
  | _, _, .cons x y => .cons (IsP.soft h x) (IsPs.soft h y)
theorem IsKs.soft {K : PySem.W.Frag} {H : Hp} {μ : List Addr} {b : Addr} {o : HO} {φ : Heap → Prop} (h : H b = some (.ext φ)) : ∀ {vs : List (Key × V)} {ds : List (PyData × PyData)}, IsKs K H μ vs ds → IsKs K (upd H b o) μ vs ds
  | _, _, .nil => .nil
  | _, _, .cons x y => .cons (IsP.soft h x) (IsKs.soft h y)
end
mutual
theorem IsP.sub {K : PySem.W.Frag} {H : Hp} {μ μ' : List Addr} (s : ∀ a, a ∈ μ' → a ∈ μ) : ∀ {v : V} {d : PyData}, IsP K H μ v d → IsP K H μ' v d
  | _, _, .none => .none
  | _, _, .bool b => .bool b
  | _, _, .int i => .int i
  | _, _, .str x => .str x
  | _, _, .tup f h => .tup ⟨f.1, fun z => f.2 (s _ z)⟩ (IsPs.sub s h)
  | _, _, .tupK f h => .tupK f (IsPs.sub s h)
  | _, _, .lst f h => .lst ⟨f.1, fun z => f.2 (s _ z)⟩ (IsPs.sub s h)
  | _, _, .dct f h => .dct ⟨f.1, fun z => f.2 (s _ z)⟩ (IsKs.sub s h)
theorem IsPs.sub {K : PySem.W.Frag} {H : Hp} {μ μ' : List Addr} (s : ∀ a, a ∈ μ' → a ∈ μ) : ∀ {vs : List V} {ds : List PyData}, IsPs K H μ vs ds → IsPs K H μ' vs ds
  | _, _, .nil => .nil
  | _, _, .cons a b => .cons (IsP.sub s a) (IsPs.sub s b)
theorem IsKs.sub {K : PySem.W.Frag} {H : Hp} {μ μ' : List Addr} (s : ∀ a, a ∈ μ' → a ∈ μ) : ∀ {vs : List (Key × V)} {ds : List (PyData × PyData)}, IsKs K H μ vs ds → IsKs K H μ' vs ds
  | _, _, .nil => .nil
  | _, _, .cons a b => .cons (IsP.sub s a) (IsKs.sub s b)
end
section
variable {K : PySem.W.Frag} {H : Hp} {μ : List Addr}
theorem IsPs.length : ∀ {vs : List V} {ds : List PyData}, IsPs K H μ vs ds → vs.length = ds.length
  | _, _, .nil => rfl
  | _, _, .cons _ b => congrArg (· + 1) b.length
theorem IsPs.get : ∀ {vs : List V} {ds : List PyData} {i : Nat} {d : PyData}, IsPs K H μ vs ds → ds[i]? = some d → ∃ v, vs[i]? = some v ∧ IsP K H μ v d
  | _, _, _, _, .nil, e => by simp at e
  | _, _, 0, _, .cons a _, e => by simp at e; subst e; exact ⟨_, rfl, a⟩
  | _, _, i + 1, d, .cons _ b, e => by
    obtain ⟨u, h1, h2⟩ := IsPs.get (i := i) (d := d) b (by simpa using e)
    exact ⟨u, by simpa using h1, h2⟩
theorem IsPs.getV : ∀ {vs : List V} {ds : List PyData} {i : Nat} {v : V}, IsPs K H μ vs ds → vs[i]? = some v → ∃ d, ds[i]? = some d ∧ IsP K H μ v d
  | _, _, _, _, .nil, e => by simp at e
  | _, _, 0, _, .cons a _, e => by simp at e; subst e; exact ⟨_, rfl, a⟩
  | _, _, i + 1, d, .cons _ b, e => by
    obtain ⟨u, h1, h2⟩ := IsPs.getV (i := i) (v := d) b (by simpa using e)
    exact ⟨u, by simpa using h1, h2⟩
theorem IsPs.append : ∀ {vs ws : List V} {ds es : List PyData}, IsPs K H μ vs ds → IsPs K H μ ws es → IsPs K H μ (vs ++ ws) (ds ++ es)
  | _, _, _, _, .nil, s => s
  | _, _, _, _, .cons r t, s => .cons r (t.append s)
theorem IsPs.take : ∀ {vs : List V} {ds : List PyData} (n : Nat), IsPs K H μ vs ds → IsPs K H μ (vs.take n) (ds.take n)
  | _, _, 0, _ => .nil
  | _, _, _ + 1, .nil => .nil
  | _, _, n + 1, .cons r t => .cons r (t.take n)
theorem IsPs.drop : ∀ {vs : List V} {ds : List PyData} (n : Nat), IsPs K H μ vs ds → IsPs K H μ (vs.drop n) (ds.drop n)
  | _, _, 0, r => r
  | _, _, _ + 1, .nil => .nil
  | _, _, n + 1, .cons _ t => t.drop n
theorem IsPs.reverse : ∀ {vs : List V} {ds : List PyData}, IsPs K H μ vs ds → IsPs K H μ vs.reverse ds.reverse
  | _, _, .nil => .nil
  | _, _, .cons r t => by
    rw [List.reverse_cons, List.reverse_cons]
    exact t.reverse.append (.cons r .nil)
theorem IsPs.set : ∀ {vs : List V} {ds : List PyData} (i : Nat) {v : V} {d : PyData}, IsPs K H μ vs ds → IsP K H μ v d → IsPs K H μ (vs.set i v) (ds.set i d)
  | _, _, _, _, _, .nil, _ => .nil
  | _, _, 0, _, _, .cons _ t, r => .cons r t
  | _, _, i + 1, _, _, .cons q t, r => .cons q (t.set i r)
theorem IsPs.ints : ∀ ns : List Int, IsPs K H μ (ns.map V.int) (ns.map PyData.int)
  | [] => .nil
  | n :: r => .cons (.int n) (IsPs.ints r)
end

/-- a slot's value -/
def IsV (K : PySem.W.Frag) (H : Hp) (μ : List Addr) (y : V) : DV → Prop
  | .d x => IsP K H μ y x
  | .fn a => y = .ref a
  | .mr n => ∃ a, y = .ref a ∧ μ[n]? = some a
  | .scr ns => ∃ a, y = .ref a ∧ ((∃ o, H a = some (.frz o (.lst (ns.map V.int))) ∧ a ∉ μ) ∨ SqL K noH a (ns.map V.int))
theorem pre_get {α : Type} {l l' : List α} (h : l <+: l') {n : Nat} {a : α} (e : l[n]? = some a) : l'[n]? = some a := by
  obtain ⟨r, rfl⟩ := h
  rw [List.getElem?_append_left (List.getElem?_eq_some_iff.mp e).1]
  exact e
theorem IsV.mono {K : PySem.W.Frag} {H H' : Hp} {μ μ' : List Addr} {y : V} {v : DV} (h : IsV K H μ y v) (s : Step μ H μ' H') : IsV K H' μ' y v := by
  cases v with
  | d x => exact IsP.mono s h
  | fn a => exact h
  | mr n =>
    obtain ⟨a, e, m⟩ := h
    exact ⟨a, e, pre_get s.pre m⟩
  | scr ns =>
    obtain ⟨a, e, m⟩ := h
    refine ⟨a, e, m.imp ?_ id⟩
    rintro ⟨o, e1, n⟩
    have q : Hard (HO.frz o (.lst (ns.map V.int))) := trivial
    exact ⟨o, s.keep a _ n e1 q, s.notin n e1 q⟩
inductive IsVs (K : PySem.W.Frag) (H : Hp) (μ : List Addr) : List V → List DV → Prop
  | nil : IsVs K H μ [] []
  | cons {y : V} {v : DV} {ys : List V} {vs : List DV} : IsV K H μ y v → IsVs K H μ ys vs → IsVs K H μ (y :: ys) (v :: vs)
theorem IsVs.mono {K : PySem.W.Frag} {H H' : Hp} {μ μ' : List Addr} (s : Step μ H μ' H') : ∀ {ys : List V} {vs : List DV}, IsVs K H μ ys vs → IsVs K H' μ' ys vs
  | _, _, .nil => .nil
  | _, _, .cons a b => .cons (a.mono s) (IsVs.mono s b)
theorem IsVs.length {K : PySem.W.Frag} {H : Hp} {μ : List Addr} : ∀ {ys : List V} {vs : List DV}, IsVs K H μ ys vs → ys.length = vs.length
  | _, _, .nil => rfl
  | _, _, .cons _ b => congrArg (· + 1) b.length

/-- the slots -/
structure SL (K : PySem.W.Frag) (H : Hp) (μ : List Addr) (σ : L2.St) (ds : Sl) : Prop where
  len : σ.length = ds.length
  at_ : ∀ (i : Nat) (v : DV), ds[i]? = some (some v) → ∃ y, σ[i]? = some (some y) ∧ IsV K H μ y v
theorem SL.mono {K : PySem.W.Frag} {H H' : Hp} {μ μ' : List Addr} {σ : L2.St} {ds : Sl} (h : SL K H μ σ ds) (s : Step μ H μ' H') : SL K H' μ' σ ds :=
  ⟨h.len, fun i v e => let ⟨y, e1, e2⟩ := h.at_ i v e; ⟨y, e1, e2.mono s⟩⟩
theorem SL.set {K : PySem.W.Frag} {H : Hp} {μ : List Addr} {σ : L2.St} {ds : Sl} (h : SL K H μ σ ds) (i : Nat) {y : V} {v : DV} (r : IsV K H μ y v) : SL K H μ (σ.set i (some y)) (ds.set i (some v)) := by
  refine ⟨by simpa using h.len, fun j u e => ?_⟩
  by_cases hj : i = j
  · subst hj
    by_cases hi : i < ds.length
    · rw [List.getElem?_set_self hi] at e
      cases e
      exact ⟨y, List.getElem?_set_self (by rw [h.len]; exact hi), r⟩
    · rw [List.getElem?_eq_none (by simpa using hi)] at e
      cases e
  · rw [List.getElem?_set_ne hj] at e
    rw [List.getElem?_set_ne hj]
    exact h.at_ j u e
theorem SL.forget {K : PySem.W.Frag} {H : Hp} {μ : List Addr} {σ : L2.St} {ds : Sl} (h : SL K H μ σ ds) (i : Nat) (o : Option V) : SL K H μ (σ.set i o) (ds.set i none) := by
  refine ⟨by simpa using h.len, fun j u e => ?_⟩
  by_cases hj : i = j
  · subst hj
    by_cases hi : i < ds.length
    · rw [List.getElem?_set_self hi] at e
      cases e
    · rw [List.getElem?_eq_none (by simpa using hi)] at e
      cases e
  · rw [List.getElem?_set_ne hj] at e
    rw [List.getElem?_set_ne hj]
    exact h.at_ j u e

/-- a mutable object stands at a -/
def MOk (K : PySem.W.Frag) (H : Hp) (μ : List Addr) (a : Addr) : MO → Prop
  | .lst ds => ∃ vs, H a = some (.lst vs) ∧ IsPs K H μ vs ds
/-- the store -/
structure GR (K : PySem.W.Frag) (T : List (Addr × Str)) (H : Hp) (μ : List Addr) (G : Ms) : Prop where
  nd : μ.Nodup
  len : μ.length = G.length
  at_ : ∀ (i : Nat) (a : Addr) (o : MO), μ[i]? = some a → G[i]? = some o → MOk K H μ a o
  tabs : LamX.Tabs T H
section
variable {K : PySem.W.Frag} {T : List (Addr × Str)} {H : Hp} {μ : List Addr} {G : Ms}
theorem GR.is (g : GR K T H μ G) {a : Addr} (h : a ∈ μ) : ∃ vs, H a = some (.lst vs) := by
  obtain ⟨i, hi, e⟩ := List.getElem_of_mem h
  have hg : i < G.length := by rw [← g.len]; exact hi
  have z := g.at_ i a G[i] (by rw [List.getElem?_eq_getElem hi, e]) (List.getElem?_eq_getElem hg)
  cases hG : G[i] with
  | lst ds =>
    rw [hG] at z
    obtain ⟨vs, z, _⟩ := z
    exact ⟨vs, z⟩
theorem GR.notin (g : GR K T H μ G) {p : Addr} (h : H p = none) : p ∉ μ := fun hm => by
  obtain ⟨vs, e⟩ := g.is hm
  rw [h] at e
  cases e
theorem Step.fresh {p : Addr} {o : HO} (h : H p = none) : Step μ H μ (upd H p o) :=
  ⟨List.prefix_refl _, fun a u _ e _ => by rw [upd_ne (ne_of_none e h)]; exact e, fun _ a b => absurd a b⟩
theorem Step.alloc {p : Addr} {o : HO} (h : H p = none) : Step μ H (μ ++ [p]) (upd H p o) :=
  ⟨List.prefix_append _ _, fun a u _ e _ => by rw [upd_ne (ne_of_none e h)]; exact e, fun a hm n u e => by
    rcases List.mem_append.mp hm with z | z
    · exact absurd z n
    · rw [List.mem_singleton.mp z, h] at e
      cases e⟩
theorem Step.write0 {μ' : List Addr} {H' : Hp} {a : Addr} {o : HO} (s : Step μ H μ' H') (h : H a = none) : Step μ H μ' (upd H' a o) :=
  ⟨s.pre, fun b u n e t => by rw [upd_ne (ne_of_none e h)]; exact s.keep b u n e t, s.new⟩
theorem Step.write {a : Addr} {o : HO} (h : a ∈ μ) : Step μ H μ (upd H a o) :=
  ⟨List.prefix_refl _, fun b u n e _ => by rw [upd_ne (fun z => n (by rw [z]; exact h))]; exact e, fun _ a b => absurd a b⟩
theorem tabs_write {a : Addr} {vs : List V} {o : HO} (h : H a = some (.lst vs)) (t : LamX.Tabs T H) : LamX.Tabs T (upd H a o) := fun p hp => by
  obtain ⟨ps, h1, h2, h3⟩ := t p hp
  refine ⟨ps, by rw [upd_ne (ne_of h1 h (by intro z; cases z))]; exact h1, h2, fun pos cv hc => ?_⟩
  obtain ⟨c, e1, e2⟩ := h3 pos cv hc
  exact ⟨c, e1, by rw [upd_ne (ne_of e2 h (by intro z; unfold LamX.CodeO at z; cases z))]; exact e2⟩
theorem tabs_fresh {p : Addr} {o : HO} (h : H p = none) (t : LamX.Tabs T H) : LamX.Tabs T (upd H p o) :=
  LamX.Tabs.ext t fun b u e => by rw [upd_ne (ne_of_none e h)]; exact e
theorem MOk.mono {H' : Hp} {μ' : List Addr} {a : Addr} {o : MO} (m : MOk K H μ a o) (s : Step μ H μ' H') (e : H' a = H a) : MOk K H' μ' a o := by
  cases o with
  | lst ds =>
    obtain ⟨vs, h1, h2⟩ := m
    exact ⟨vs, by rw [e]; exact h1, IsPs.mono s h2⟩
theorem GR.fresh (g : GR K T H μ G) {p : Addr} {o : HO} (h : H p = none) : GR K T (upd H p o) μ G := by
  refine ⟨g.nd, g.len, fun i a u e1 e2 => ?_, tabs_fresh h g.tabs⟩
  exact (g.at_ i a u e1 e2).mono (.fresh h) (upd_ne (fun z => g.notin h (by rw [← z]; exact List.mem_of_getElem? e1)))
theorem GR.alloc (g : GR K T H μ G) {p : Addr} {vs : List V} {ds : List PyData} (h : H p = none) (r : IsPs K H μ vs ds) : GR K T (upd H p (.lst vs)) (μ ++ [p]) (G ++ [.lst ds]) := by
  have s : Step μ H (μ ++ [p]) (upd H p (.lst vs)) := .alloc h
  refine ⟨?_, by simp [g.len], fun i a u e1 e2 => ?_, tabs_fresh h g.tabs⟩
  · rw [List.nodup_append]
    refine ⟨g.nd, by simp, fun a ha b hb z => ?_⟩
    rw [List.mem_singleton] at hb
    subst hb
    exact g.notin h (by rw [← z]; exact ha)
  · by_cases hi : i < μ.length
    · rw [List.getElem?_append_left hi] at e1
      rw [List.getElem?_append_left (by rw [← g.len]; exact hi)] at e2
      exact (g.at_ i a u e1 e2).mono s (upd_ne (fun z => g.notin h (by rw [← z]; exact List.mem_of_getElem? e1)))
    · rw [List.getElem?_append_right (by omega)] at e1
      rw [List.getElem?_append_right (by rw [← g.len]; omega)] at e2
      obtain ⟨h1, h2⟩ := List.getElem?_eq_some_iff.mp e1
      have hz : i - μ.length = 0 := by simp at h1; omega
      have hz' : i - G.length = 0 := by rw [← g.len]; exact hz
      rw [hz] at e1
      rw [hz'] at e2
      simp at e1 e2
      subst e1
      subst e2
      exact ⟨vs, upd_same, IsPs.mono s r⟩
theorem GR.write (g : GR K T H μ G) {n : Nat} {a : Addr} {vs : List V} {ds : List PyData} (e : μ[n]? = some a) (r : IsPs K H μ vs ds) : GR K T (upd H a (.lst vs)) μ (G.set n (.lst ds)) := by
  have hm : a ∈ μ := List.mem_of_getElem? e
  obtain ⟨ws, hw⟩ := g.is hm
  have s : Step μ H μ (upd H a (.lst vs)) := .write hm
  refine ⟨g.nd, by simp [g.len], fun i b u e1 e2 => ?_, tabs_write hw g.tabs⟩
  by_cases hi : n = i
  · subst hi
    rw [e] at e1
    cases e1
    have hl : n < G.length := by rw [← g.len]; exact (List.getElem?_eq_some_iff.mp e).1
    rw [List.getElem?_set_self hl] at e2
    cases e2
    exact ⟨vs, upd_same, IsPs.mono s r⟩
  · rw [List.getElem?_set_ne hi] at e2
    refine (g.at_ i b u e1 e2).mono s (upd_ne fun z => ?_)
    subst z
    obtain ⟨h1, e1'⟩ := List.getElem?_eq_some_iff.mp e
    obtain ⟨h2, e2'⟩ := List.getElem?_eq_some_iff.mp e1
    exact hi ((List.getElem_inj g.nd).mp (e1'.trans e2'.symm))
/-- the store cut behind n objects -/
theorem GR.take (g : GR K T H μ G) (n : Nat) : GR K T H (μ.take n) (G.take n) := by
  have sub : ∀ a, a ∈ μ.take n → a ∈ μ := fun a h => List.mem_of_mem_take h
  refine ⟨g.nd.sublist (List.take_sublist _ _), by simp [g.len], fun i a u e1 e2 => ?_, g.tabs⟩
  rw [List.getElem?_take] at e1 e2
  split at e1
  · rename_i hi
    rw [if_pos hi] at e2
    have m := g.at_ i a u e1 e2
    cases u with
    | lst ds =>
      obtain ⟨vs, h1, h2⟩ := m
      exact ⟨vs, h1, IsPs.sub sub h2⟩
  · cases e1
end
end DL
/-! DLb: programs and what they say of the judgements: expressions, tests, argument lists. -/
namespace DL
open PySem PySem.Spec PyProof.Rows L2

abbrev MgT := Str → Option Value
/-- an exception lies as x tells -/
def XR (K : PySem.W.Frag) (mg : MgT) (H : Hp) (μ : List Addr) (c : Value) (d : Option Addr) (x : XD) : Prop :=
  ∃ C, c = .ref C ∧ mg x.name = some (.ref C) ∧ (x.fs = [] ∨ ∃ dx fs, d = some dx ∧ H dx = some (.xd fs) ∧ dx ∉ μ ∧ fs.map (·.1) = x.fs.map (·.1) ∧ IsPs K H μ (fs.map (·.2)) (x.fs.map (·.2)))
theorem XR.mono {K : PySem.W.Frag} {mg : MgT} {H H' : Hp} {μ μ' : List Addr} {c : Value} {d : Option Addr} {x : XD} (h : XR K mg H μ c d x) (s : Step μ H μ' H') : XR K mg H' μ' c d x := by
  obtain ⟨C, e1, e2, h⟩ := h
  refine ⟨C, e1, e2, h.imp id ?_⟩
  rintro ⟨dx, fs, e3, e4, n, e5, r⟩
  exact ⟨dx, fs, e3, s.keep dx _ n e4 trivial, s.notin n e4 trivial, e5, IsPs.mono s r⟩

/-- what a program's answer promises: R tells how a value stands for the answer -/
def Post {α β : Type} (K : PySem.W.Frag) (mg : MgT) (T : List (Addr × Str)) (R : Hp → List Addr → β → α → Prop) (W : WX) (σ : L2.St) (μ : List Addr) (H : Hp) (Q : β → Hp → Prop) : ER α → Prop
  | .ok v G' => ∀ y H' μ', Step μ H μ' H' → R H' μ' y v → GR K T H' μ' G' → Q y H'
  | .exn x G' => ∀ c d H' μ', Step μ H μ' H' → XR K mg H' μ' c d x → GR K T H' μ' G' → W c d σ H'
  | .bad => False
def tG {α β : Type} (K : PySem.W.Frag) (mg : MgT) (T : List (Addr × Str)) (R : Hp → List Addr → β → α → Prop) (W : WX) (m : Sl → Ms → ER α) (σ : L2.St) (H : Hp) (Q : β → Hp → Prop) : Prop :=
  ∃ μ ds G, SL K H μ σ ds ∧ GR K T H μ G ∧ Post K mg T R W σ μ H Q (m ds G)
abbrev RV (K : PySem.W.Frag) : Hp → List Addr → V → DV → Prop := fun H μ y v => IsV K H μ y v
abbrev RB : Hp → List Addr → Bool → Bool → Prop := fun _ _ y v => y = v
abbrev RA (K : PySem.W.Frag) : Hp → List Addr → List V → List DV → Prop := fun H μ y v => IsVs K H μ y v
abbrev EM := Sl → Ms → ER DV
abbrev BM := Sl → Ms → ER Bool
abbrev AM := Sl → Ms → ER (List DV)
abbrev tE (K : PySem.W.Frag) (mg : MgT) (T : List (Addr × Str)) (W : WX) (m : EM) : TE := tG K mg T (RV K) W m
abbrev tB (K : PySem.W.Frag) (mg : MgT) (T : List (Addr × Str)) (W : WX) (m : BM) : TT := tG K mg T RB W m
abbrev tL (K : PySem.W.Frag) (mg : MgT) (T : List (Addr × Str)) (W : WX) (m : AM) : TA := tG K mg T (RA K) W m
section
variable {α β γ δ : Type} {K : PySem.W.Frag} {mg : MgT} {T : List (Addr × Str)} {R : Hp → List Addr → β → α → Prop} {R' : Hp → List Addr → δ → γ → Prop} {W : WX} {σ : L2.St} {μ μ' : List Addr} {H H' : Hp}
theorem Post.step {Q : β → Hp → Prop} {r : ER α} (h : Post K mg T R W σ μ H Q r) (s : Step μ H μ' H') : Post K mg T R W σ μ' H' Q r := by
  cases r with
  | ok v G => exact fun y H2 μ2 s2 r g => h y H2 μ2 (s.trans s2) r g
  | exn x G => exact fun c d H2 μ2 s2 r g => h c d H2 μ2 (s.trans s2) r g
  | bad => exact h
/-- behind the first part the rest -/
theorem Post.bind {Q : δ → Hp → Prop} {r : ER α} {f : α → Ms → ER γ} (h : Post K mg T R' W σ μ H Q (r.bind f)) :
    Post K mg T R W σ μ H (fun y H1 => ∃ μ1 v G1, Step μ H μ1 H1 ∧ R H1 μ1 y v ∧ GR K T H1 μ1 G1 ∧ Post K mg T R' W σ μ1 H1 Q (f v G1)) r := by
  cases r with
  | ok v G => exact fun y H2 μ2 s2 r g => ⟨μ2, v, G, s2, r, g, h.step s2⟩
  | exn x G => exact h
  | bad => exact h
theorem Post.mono {Q Q' : β → Hp → Prop} {r : ER α} (h : Post K mg T R W σ μ H Q r) (hq : ∀ y H', Q y H' → Q' y H') : Post K mg T R W σ μ H Q' r := by
  cases r with
  | ok v G => exact fun y H2 μ2 s2 r g => hq y H2 (h y H2 μ2 s2 r g)
  | exn x G => exact h
  | bad => exact h
theorem tG.mono {m : Sl → Ms → ER α} {Q Q' : β → Hp → Prop} (h : tG K mg T R W m σ H Q) (hq : ∀ y H', Q y H' → Q' y H') : tG K mg T R W m σ H Q' := by
  obtain ⟨μ, ds, G, hs, g, p⟩ := h
  exact ⟨μ, ds, G, hs, g, p.mono hq⟩
/-- the first part, then the rest in the same slots -/
theorem tG.bind {Q : δ → Hp → Prop} {m : Sl → Ms → ER α} {f : α → Sl → Ms → ER γ} (h : tG K mg T R' W (fun ds G => (m ds G).bind fun v G1 => f v ds G1) σ H Q) :
    tG K mg T R W m σ H fun y H1 => ∃ μ1 ds v G1, SL K H1 μ1 σ ds ∧ GR K T H1 μ1 G1 ∧ R H1 μ1 y v ∧ Post K mg T R' W σ μ1 H1 Q (f v ds G1) := by
  obtain ⟨μ, ds, G, hs, g, p⟩ := h
  refine ⟨μ, ds, G, hs, g, ?_⟩
  exact (Post.bind (R := R) p).mono fun y H1 ⟨μ1, v, G1, s, r, g1, q⟩ => ⟨μ1, ds, v, G1, hs.mono s, g1, r, q⟩
theorem Post.okv {Q : β → Hp → Prop} {y : β} {v : α} {G : Ms} (h : Post K mg T R W σ μ H Q (.ok v G)) (g : GR K T H μ G) (r : R H μ y v) : Q y H := h y H μ (.refl _ _) r g
end

theorem pe_weak {X : Cx} {e : Expr} {t t' : TE} (h : PE X e t) (w : ∀ σ H Q, t' σ H Q → t σ H Q) : PE X e t' := ⟨fun pins s σ H Q I q => h.run pins s σ H Q I (w σ H Q q)⟩
theorem pt_weak {X : Cx} {e : Expr} {t t' : TT} (h : PT X e t) (w : ∀ σ H Q, t' σ H Q → t σ H Q) : PT X e t' := ⟨fun pins s σ H Q I q => h.run pins s σ H Q I (w σ H Q q)⟩
theorem pw_weak {X : Cx} {e : Expr} {t t' : TT} (h : PW X e t) (w : ∀ σ H Q, t' σ H Q → t σ H Q) : PW X e t' := ⟨fun wh pins s σ H Q I q => h.run wh pins s σ H Q I (w σ H Q q)⟩
theorem pa_weak {X : Cx} {e : List Expr} {t t' : TA} (h : PA X e t) (w : ∀ σ H Q, t' σ H Q → t σ H Q) : PA X e t' := ⟨fun pos pins s σ H Q I q => h.run pos pins s σ H Q I (w σ H Q q)⟩
theorem ps_weak {X : Cx} {e : Stmt} {t t' : TS} (h : PS X e t) (w : ∀ D σ H, t' D σ H → t D σ H) : PS X e t' := ⟨fun pins s σ H D I q => h.run pins s σ H D I (w D σ H q)⟩
theorem pss_weak {X : Cx} {e : List Stmt} {t t' : TS} (h : PSs X e t) (w : ∀ D σ H, t' D σ H → t D σ H) : PSs X e t' := ⟨fun pins s σ H D I q => h.run pins s σ H D I (w D σ H q)⟩

/-! ### names, constants -/
def varE (i : Nat) : EM := fun ds G => match ds[i]? with | some (some v) => .ok v G | _ => .bad
def cE (v : DV) : EM := fun _ G => .ok v G
abbrev kE (x : PyData) : EM := cE (.d x)
section
variable {X : Cx} {T : List (Addr × Str)} {W : WX} {pos : Pos} {e a b c : Expr} {es : List Expr} {ma mb mc : EM} {m : AM} {ba bb : BM}
theorem d_var {i : Nat} {x : Str} (hN : X.N[i]? = some x) (hv : Vis X.env.scope x) (hd : (x == ("__debug__" : Str)) = false := by decide) (hcd : (x == ("__classdict__" : Str)) = false := by decide) : PE X (.Name x pos) (tE X.K X.mg T W (varE i)) :=
  pe_weak (pe_var hN hv hd hcd) fun σ H Q h => by
    obtain ⟨μ, ds, G, hs, g, p⟩ := h
    have p' : Post X.K X.mg T (RV X.K) W σ μ H Q (match ds[i]? with | some (some v) => .ok v G | _ => .bad) := p
    cases e : ds[i]? with
    | none => rw [e] at p'; exact p'.elim
    | some o =>
      cases o with
      | none => rw [e] at p'; exact p'.elim
      | some v =>
        rw [e] at p'
        obtain ⟨y, e1, r⟩ := hs.at_ i v e
        exact ⟨y, e1, Post.okv p' g r⟩
theorem d_const {y : V} {v : DV} (h : PE X e (tC y)) (r : ∀ H μ, IsV X.K H μ y v) : PE X e (tE X.K X.mg T W (cE v)) :=
  pe_weak h fun σ H Q h => by
    obtain ⟨μ, ds, G, hs, g, p⟩ := h
    exact Post.okv (R := RV X.K) p g (r H μ)
theorem d_int {i : Int} {j} : PE X (.Constant (.int i) j pos) (tE X.K X.mg T W (kE (.int i))) := d_const pe_int fun _ _ => .int i
theorem d_bool {i : Bool} {j} : PE X (.Constant (.bool i) j pos) (tE X.K X.mg T W (kE (.bool i))) := d_const pe_bl fun _ _ => .bool i
theorem d_none {j} : PE X (.Constant .none j pos) (tE X.K X.mg T W (kE .none)) := d_const pe_non fun _ _ => .none
theorem d_str {x : Str} {j} : PE X (.Constant (.str x) j pos) (tE X.K X.mg T W (kE (.str x))) := d_const pe_str fun _ _ => .str x
theorem d_glob {x : Str} {y : V} {u : Value} {v : DV} (hg : Gl X x) (hm : X.mg x = some u) (r : RelV y u) (h : ∀ H μ, IsV X.K H μ y v) (hd : (x == ("__debug__" : Str)) = false := by decide) : PE X (.Name x pos) (tE X.K X.mg T W (cE v)) :=
  d_const (pe_glob hg hm r hd) h

/-! ### operators by values -/
abbrev OpF := DV → DV → Ms → Option (DV × Ms)
def liftO {α : Type} : Option (α × Ms) → ER α
  | some (v, G) => .ok v G
  | none => .bad
@[simp] theorem liftO_some {α : Type} (v : α) (G : Ms) : liftO (some (v, G)) = .ok v G := rfl
@[simp] theorem liftO_none {α : Type} : liftO (none : Option (α × Ms)) = .bad := rfl
def binE (f : OpF) (ma mb : EM) : EM := fun ds G => (ma ds G).bind fun v G1 => (mb ds G1).bind fun u G2 => liftO (f v u G2)
/-- what is handed on -/
def Out (K : PySem.W.Frag) (T : List (Addr × Str)) (μ : List Addr) (H : Hp) (w : DV) (G' : Ms) (Q : VK) : Prop := ∀ z H' μ', Step μ H μ' H' → IsV K H' μ' z w → GR K T H' μ' G' → Q z H'
def rD (K : PySem.W.Frag) (T : List (Addr × Str)) (f : OpF) : R2 := fun x y H Q => ∃ μ v u G w G', IsV K H μ x v ∧ IsV K H μ y u ∧ GR K T H μ G ∧ f v u G = some (w, G') ∧ Out K T μ H w G' Q
theorem out_of {σ : L2.St} {μ : List Addr} {H : Hp} {Q : VK} {o : Option (DV × Ms)} (p : Post X.K X.mg T (RV X.K) W σ μ H Q (liftO o)) : ∃ w G', o = some (w, G') ∧ Out X.K T μ H w G' Q := by
  cases o with
  | none => exact p.elim
  | some q => exact ⟨q.1, q.2, rfl, p⟩
theorem Out.here {K : PySem.W.Frag} {μ : List Addr} {H : Hp} {w : DV} {G : Ms} {Q : VK} {z : V} (o : Out K T μ H w G Q) (g : GR K T H μ G) (r : IsV K H μ z w) : Q z H := o z H μ (.refl _ _) r g
theorem bin_imp {f : OpF} {σ : L2.St} {H : Hp} {Q : VK} (h : tE X.K X.mg T W (binE f ma mb) σ H Q) : tOp (rD X.K T f) (tE X.K X.mg T W ma) (tE X.K X.mg T W mb) σ H Q := by
  refine (tG.bind (R := RV X.K) (f := fun v ds G1 => (mb ds G1).bind fun u G2 => liftO (f v u G2)) h).mono ?_
  rintro x H1 ⟨μ1, ds, v, G1, hs, g1, r1, p⟩
  refine ⟨μ1, ds, G1, hs, g1, ?_⟩
  refine (Post.bind (R := RV X.K) p).mono ?_
  rintro y H2 ⟨μ2, u, G2, s, r2, g2, p2⟩
  obtain ⟨w, G', e, o⟩ := out_of p2
  exact ⟨μ2, v, u, G2, w, G', r1.mono s, r2, g2, e, o⟩
theorem d_bin {op : Operator} {f : OpF} (ho : OpR X (binaryOp op) (rD X.K T f)) (ha : PE X a (tE X.K X.mg T W ma)) (hb : PE X b (tE X.K X.mg T W mb)) : PE X (.BinOp a op b pos) (tE X.K X.mg T W (binE f ma mb)) :=
  pe_weak (pe_op ho ha hb) fun _ _ _ h => bin_imp h
theorem d_cmp {op : CmpOp} {f : OpF} (ho : OpR X (compareOp op) (rD X.K T f)) (ha : PE X a (tE X.K X.mg T W ma)) (hb : PE X b (tE X.K X.mg T W mb)) (hm : behindInMarks op b = false) : PE X (.Compare a [op] [b] pos) (tE X.K X.mg T W (binE f ma mb)) :=
  pe_weak (pe_cmpR ho ha hb hm) fun _ _ _ h => bin_imp h
/-- one-place operators -/
abbrev UnF := DV → Ms → Option (DV × Ms)
def unE (f : UnF) (ma : EM) : EM := fun ds G => (ma ds G).bind fun v G1 => liftO (f v G1)
def rU1 (K : PySem.W.Frag) (T : List (Addr × Str)) (f : UnF) : V → Hp → VK → Prop := fun x H Q => ∃ μ v G w G', IsV K H μ x v ∧ GR K T H μ G ∧ f v G = some (w, G') ∧ Out K T μ H w G' Q
theorem un_imp {f : UnF} {σ : L2.St} {H : Hp} {Q : VK} (h : tE X.K X.mg T W (unE f ma) σ H Q) : tE X.K X.mg T W ma σ H fun x H1 => rU1 X.K T f x H1 Q := by
  refine (tG.bind (R := RV X.K) (f := fun v ds G1 => liftO (f v G1)) h).mono ?_
  rintro x H1 ⟨μ1, ds, v, G1, hs, g1, r1, p⟩
  obtain ⟨w, G', e, o⟩ := out_of p
  exact ⟨μ1, v, G1, w, G', r1, g1, e, o⟩
theorem d_un {op : UnaryOp} {f : UnF} (ho : UnR X (unaryOp op) (rU1 X.K T f)) (ha : PE X a (tE X.K X.mg T W ma)) : PE X (.UnaryOp op a pos) (tE X.K X.mg T W (unE f ma)) :=
  pe_weak (pe_un ho ha) fun _ _ _ h => un_imp h

/-! ### argument lists -/
def nilA : AM := fun _ G => .ok [] G
def consA (ma : EM) (m : AM) : AM := fun ds G => (ma ds G).bind fun v G1 => (m ds G1).bind fun vs G2 => .ok (v :: vs) G2
theorem d_nil : PA X [] (tL X.K X.mg T W nilA) := pa_weak pa_nil fun σ H Q h => by
  obtain ⟨μ, ds, G, hs, g, p⟩ := h
  exact Post.okv (R := RA X.K) p g .nil
theorem d_cons (ha : PE X e (tE X.K X.mg T W ma)) (hr : PA X es (tL X.K X.mg T W m)) (hs : starEach (e :: es) X.env = (false, eval e X.env) :: starEach es X.env := by rfl) : PA X (e :: es) (tL X.K X.mg T W (consA ma m)) :=
  pa_weak (pa_cons ha hr hs) fun σ H Q h => by
    refine (tG.bind (R := RV X.K) (f := fun v ds G1 => (m ds G1).bind fun vs G2 => .ok (v :: vs) G2) h).mono ?_
    rintro x H1 ⟨μ1, ds, v, G1, hs, g1, r1, p⟩
    refine ⟨μ1, ds, G1, hs, g1, ?_⟩
    refine (Post.bind (R := RA X.K) p).mono ?_
    rintro ys H2 ⟨μ2, vs, G2, s, r2, g2, p2⟩
    exact Post.okv (R := RA X.K) p2 g2 (.cons (r1.mono s) r2)

/-! ### calls of builtins by values -/
abbrev CaF := List DV → Ms → Option (DV × Ms)
def callE (f : CaF) (m : AM) : EM := fun ds G => (m ds G).bind fun vs G1 => liftO (f vs G1)
def rC (K : PySem.W.Frag) (T : List (Addr × Str)) (f : CaF) : List V → Hp → VK → Prop := fun xs H Q => ∃ μ vs G w G', IsVs K H μ xs vs ∧ GR K T H μ G ∧ f vs G = some (w, G') ∧ Out K T μ H w G' Q
theorem call_imp {f : CaF} {σ : L2.St} {H : Hp} {Q : VK} (h : tE X.K X.mg T W (callE f m) σ H Q) : tL X.K X.mg T W m σ H fun xs H1 => rC X.K T f xs H1 Q := by
  refine (tG.bind (R := RA X.K) (f := fun v ds G1 => liftO (f v G1)) h).mono ?_
  rintro x H1 ⟨μ1, ds, v, G1, hs, g1, r1, p⟩
  obtain ⟨w, G', e, o⟩ := out_of p
  exact ⟨μ1, v, G1, w, G', r1, g1, e, o⟩
theorem d_callB {f : CaF} {id : String} {x : Str} {p : Pos} (hc : CallR X (.builtin id) (rC X.K T f)) (hg : Gl X x) (hm : X.mg x = none) (hv : bootBuiltins x = some (.builtin id)) (ha : PA X (e :: es) (tL X.K X.mg T W m)) (hn : x ≠ "__name__" := by decide) (hdb : (x == ("__debug__" : Str)) = false := by decide)
    (he : starEach (e :: es) X.env = (false, eval e X.env) :: starEach es X.env := by rfl) (hpl : (backTo pos (starEach es X.env)).any (·.1) = false := by rfl) : PE X (.Call (.Name x p) (e :: es) [] pos) (tE X.K X.mg T W (callE f m)) :=
  pe_weak (pe_callB hc hg hm hv ha hn hdb he hpl) fun _ _ _ h => call_imp h
theorem d_callTy {f : CaF} {id : String} {x : Str} {p : Pos} (hc : CallR X (.type id) (rC X.K T f)) (hg : Gl X x) (hm : X.mg x = none) (hv : bootBuiltins x = some (.type id)) (ha : PA X (e :: es) (tL X.K X.mg T W m)) (hn : x ≠ "__name__" := by decide) (hdb : (x == ("__debug__" : Str)) = false := by decide)
    (he : starEach (e :: es) X.env = (false, eval e X.env) :: starEach es X.env := by rfl) (hpl : (backTo pos (starEach es X.env)).any (·.1) = false := by rfl) : PE X (.Call (.Name x p) (e :: es) [] pos) (tE X.K X.mg T W (callE f m)) :=
  pe_weak (pe_callTy hc hg hm hv ha hn hdb he hpl) fun _ _ _ h => call_imp h

/-! ### tests -/
def truth : DV → Ms → Option Bool
  | .d .none, _ => some false
  | .d (.bool b), _ => some b
  | .d (.int i), _ => some (i != 0)
  | .d (.list xs), _ => some (!xs.isEmpty)
  | .d (.tuple xs), _ => some (!xs.isEmpty)
  | .mr n, G => match G[n]? with | some (.lst xs) => some (!xs.isEmpty) | none => none
  | _, _ => none
def ofO {α : Type} (G : Ms) : Option α → ER α
  | some b => .ok b G
  | none => .bad
@[simp] theorem ofO_some {α : Type} (G : Ms) (b : α) : ofO G (some b) = .ok b G := rfl
@[simp] theorem ofO_none {α : Type} (G : Ms) : ofO G (none : Option α) = .bad := rfl
def truB (ma : EM) : BM := fun ds G => (ma ds G).bind fun v G1 => ofO G1 (truth v G1)
theorem isEmpty_ps {K : PySem.W.Frag} {H : Hp} {μ : List Addr} {vs : List V} {ds : List PyData} (r : IsPs K H μ vs ds) : (!vs.isEmpty) = !ds.isEmpty := by
  cases r <;> rfl
theorem tru_of {K : PySem.W.Frag} {H : Hp} {μ : List Addr} {G : Ms} {y : V} {v : DV} {k : Bool} (r : IsV K H μ y v) (g : GR K T H μ G) (e : truth v G = some k) : TruV K y H k := by
  cases v with
  | d x =>
    have r' : IsP K H μ y x := r
    cases r' with
    | none => cases e; rfl
    | bool b => cases e; rfl
    | int i => cases e; rfl
    | str x => cases e
    | tup f h => cases e; exact .inr (.inl ⟨_, f.sqT, (isEmpty_ps h).symm⟩)
    | tupK f h => cases e; exact .inr (.inl ⟨_, sqT_of f, (isEmpty_ps h).symm⟩)
    | lst f h => cases e; exact .inl ⟨_, f.sqL, (isEmpty_ps h).symm⟩
    | dct f h => cases e
  | fn a => cases e
  | mr n =>
    obtain ⟨a, rfl, hm⟩ := r
    have e' : (match G[n]? with | some (.lst xs) => some (!xs.isEmpty) | none => none) = some k := e
    cases hG : G[n]? with
    | none => rw [hG] at e'; cases e'
    | some o =>
      cases o with
      | lst xs =>
        rw [hG] at e'
        cases e'
        obtain ⟨vs, h1, h2⟩ := g.at_ n a _ hm hG
        exact .inl ⟨_, .of h1, (isEmpty_ps h2).symm⟩
  | scr ns => cases e
theorem d_tru (ha : PE X a (tE X.K X.mg T W ma)) (he : ∀ whole, isTrue a X.env whole = (do let v ← whole; standAt a.pos; holding [v] (truthy v)) := by intro _; rfl) : PT X a (tB X.K X.mg T W (truB ma)) :=
  pt_weak (pt_truth ha he) fun σ H Q h => by
    refine (tG.bind (R := RV X.K) (f := fun v ds G1 => ofO G1 (truth v G1)) h).mono ?_
    rintro x H1 ⟨μ1, ds, v, G1, hs, g1, r1, p⟩
    cases e : truth v G1 with
    | none => rw [e] at p; exact p.elim
    | some k =>
      rw [e] at p
      exact ⟨k, tru_of r1 g1 e, Post.okv (R := RB) p g1 rfl⟩
/-- an expression that gives a truth, as a test -/
def isB : DV → Option Bool
  | .d (.bool b) => some b
  | _ => none
def valB (ma : EM) : BM := fun ds G => (ma ds G).bind fun v G1 => ofO G1 (isB v)
theorem bool_of {K : PySem.W.Frag} {H : Hp} {μ : List Addr} {y : V} {v : DV} {k : Bool} (r : IsV K H μ y v) (e : isB v = some k) : y = .bl k := by
  cases v with
  | d x =>
    have r' : IsP K H μ y x := r
    cases r' <;> cases e
    rfl
  | fn a => cases e
  | mr n => cases e
  | scr ns => cases e
theorem val_imp {σ : L2.St} {H : Hp} {Q : Bool → Hp → Prop} (h : tB X.K X.mg T W (valB ma) σ H Q) : tE X.K X.mg T W ma σ H fun x H1 => ∃ k, x = .bl k ∧ Q k H1 := by
  refine (tG.bind (R := RV X.K) (f := fun v ds G1 => ofO G1 (isB v)) h).mono ?_
  rintro x H1 ⟨μ1, ds, v, G1, hs, g1, r1, p⟩
  cases e : isB v with
  | none => rw [e] at p; exact p.elim
  | some k =>
    rw [e] at p
    exact ⟨k, bool_of r1 e, Post.okv (R := RB) p g1 rfl⟩
theorem d_tcmp {op : CmpOp} {f : OpF} (ho : OpR X (compareOp op) (rD X.K T f)) (ha : PE X a (tE X.K X.mg T W ma)) (hb : PE X b (tE X.K X.mg T W mb)) (hm : behindInMarks op b = false) : PT X (.Compare a [op] [b] pos) (tB X.K X.mg T W (valB (binE f ma mb))) :=
  pt_weak (pt_cmpR ho ha hb hm) fun _ _ _ h => bin_imp (val_imp h)

def notB (c : BM) : BM := fun ds G => (c ds G).bind fun k G1 => .ok (!k) G1
def andB (c d : BM) : BM := fun ds G => (c ds G).bind fun k G1 => if k = true then d ds G1 else .ok false G1
def orB (c d : BM) : BM := fun ds G => (c ds G).bind fun k G1 => if k = true then .ok true G1 else d ds G1
theorem d_tnot (ha : PT X a (tB X.K X.mg T W ba)) : PT X (.UnaryOp .Not a pos) (tB X.K X.mg T W (notB ba)) :=
  pt_weak (pt_not ha) fun σ H Q h => by
    refine (tG.bind (R := RB) (f := fun v ds G1 => .ok (!v) G1) h).mono ?_
    rintro x H1 ⟨μ1, ds, v, G1, hs, g1, rfl, p⟩
    exact Post.okv (R := RB) p g1 rfl
theorem d_tand1 (ha : PT X a (tB X.K X.mg T W ba)) : PW X (.BoolOp .And [a] pos) (tB X.K X.mg T W ba) := pw_and1 ha
theorem d_tor1 (ha : PT X a (tB X.K X.mg T W ba)) : PW X (.BoolOp .Or [a] pos) (tB X.K X.mg T W ba) := pw_or1 ha
theorem d_tandW {rest : List Expr} (ha : PT X a (tB X.K X.mg T W ba)) (hb : PW X (.BoolOp .And (b :: rest) pos) (tB X.K X.mg T W bb)) : PW X (.BoolOp .And (a :: b :: rest) pos) (tB X.K X.mg T W (andB ba bb)) :=
  pw_weak (pw_and ha hb) fun σ H Q h => by
    refine (tG.bind (R := RB) (f := fun k ds G1 => if k = true then bb ds G1 else .ok false G1) h).mono ?_
    rintro x H1 ⟨μ1, ds, v, G1, hs, g1, rfl, p⟩
    cases x with
    | true => exact ⟨μ1, ds, G1, hs, g1, p⟩
    | false => exact Post.okv (R := RB) p g1 rfl
theorem d_torW {rest : List Expr} (ha : PT X a (tB X.K X.mg T W ba)) (hb : PW X (.BoolOp .Or (b :: rest) pos) (tB X.K X.mg T W bb)) : PW X (.BoolOp .Or (a :: b :: rest) pos) (tB X.K X.mg T W (orB ba bb)) :=
  pw_weak (pw_or ha hb) fun σ H Q h => by
    refine (tG.bind (R := RB) (f := fun k ds G1 => if k = true then .ok true G1 else bb ds G1) h).mono ?_
    rintro x H1 ⟨μ1, ds, v, G1, hs, g1, rfl, p⟩
    cases x with
    | true => exact Post.okv (R := RB) p g1 rfl
    | false => exact ⟨μ1, ds, G1, hs, g1, p⟩

/-! ### and, or, not, if as values -/
def toE (c : BM) : EM := fun ds G => (c ds G).bind fun k G1 => .ok (.d (.bool k)) G1
/-- x and y: x must be a truth -/
def andE (ma mb : EM) : EM := fun ds G => (ma ds G).bind fun v G1 => (ofO G1 (isB v)).bind fun k G2 => if k = true then mb ds G2 else .ok (.d (.bool false)) G2
def orE (ma mb : EM) : EM := fun ds G => (ma ds G).bind fun v G1 => (ofO G1 (isB v)).bind fun k G2 => if k = true then .ok (.d (.bool true)) G2 else mb ds G2
def notE (ma : EM) : EM := fun ds G => (ma ds G).bind fun v G1 => (ofO G1 (isB v)).bind fun k G2 => .ok (.d (.bool (!k))) G2
def ifE (c : BM) (ma mb : EM) : EM := fun ds G => (c ds G).bind fun k G1 => if k = true then ma ds G1 else mb ds G1
theorem d_one {op} (ha : PE X a (tE X.K X.mg T W ma)) : PE X (.BoolOp op [a] pos) (tE X.K X.mg T W ma) := pe_one ha
theorem d_and {rest : List Expr} (ha : PE X a (tE X.K X.mg T W ma)) (hb : PE X (.BoolOp .And (b :: rest) pos) (tE X.K X.mg T W mb)) : PE X (.BoolOp .And (a :: b :: rest) pos) (tE X.K X.mg T W (andE ma mb)) :=
  pe_weak (pe_and ha hb) fun σ H Q h => by
    refine (tG.bind (R := RV X.K) (f := fun v ds G1 => (ofO G1 (isB v)).bind fun k G2 => if k = true then mb ds G2 else .ok (.d (.bool false)) G2) h).mono ?_
    rintro x H1 ⟨μ1, ds, v, G1, hs, g1, r1, p⟩
    cases e : isB v with
    | none => rw [e] at p; exact p.elim
    | some k =>
      rw [e] at p
      refine ⟨k, bool_of r1 e, ?_⟩
      cases k with
      | true => exact ⟨μ1, ds, G1, hs, g1, p⟩
      | false => exact Post.okv (R := RV X.K) p g1 (.bool false)
theorem d_or {rest : List Expr} (ha : PE X a (tE X.K X.mg T W ma)) (hb : PE X (.BoolOp .Or (b :: rest) pos) (tE X.K X.mg T W mb)) : PE X (.BoolOp .Or (a :: b :: rest) pos) (tE X.K X.mg T W (orE ma mb)) :=
  pe_weak (pe_or ha hb) fun σ H Q h => by
    refine (tG.bind (R := RV X.K) (f := fun v ds G1 => (ofO G1 (isB v)).bind fun k G2 => if k = true then .ok (.d (.bool true)) G2 else mb ds G2) h).mono ?_
    rintro x H1 ⟨μ1, ds, v, G1, hs, g1, r1, p⟩
    cases e : isB v with
    | none => rw [e] at p; exact p.elim
    | some k =>
      rw [e] at p
      refine ⟨k, bool_of r1 e, ?_⟩
      cases k with
      | true => exact Post.okv (R := RV X.K) p g1 (.bool true)
      | false => exact ⟨μ1, ds, G1, hs, g1, p⟩
theorem d_not (ha : PE X a (tE X.K X.mg T W ma)) : PE X (.UnaryOp .Not a pos) (tE X.K X.mg T W (notE ma)) :=
  pe_weak (pe_not ha) fun σ H Q h => by
    refine (tG.bind (R := RV X.K) (f := fun v ds G1 => (ofO G1 (isB v)).bind fun k G2 => .ok (DV.d (.bool (!k))) G2) h).mono ?_
    rintro x H1 ⟨μ1, ds, v, G1, hs, g1, r1, p⟩
    cases e : isB v with
    | none => rw [e] at p; exact p.elim
    | some k =>
      rw [e] at p
      exact ⟨k, bool_of r1 e, Post.okv (R := RV X.K) p g1 (.bool (!k))⟩
theorem d_if (hc : PT X c (tB X.K X.mg T W ba)) (ha : PE X a (tE X.K X.mg T W ma)) (hb : PE X b (tE X.K X.mg T W mb)) : PE X (.IfExp c a b pos) (tE X.K X.mg T W (ifE ba ma mb)) :=
  pe_weak (pe_ifExp hc ha hb) fun σ H Q h => by
    refine (tG.bind (R := RB) (f := fun k ds G1 => if k = true then ma ds G1 else mb ds G1) h).mono ?_
    rintro x H1 ⟨μ1, ds, v, G1, hs, g1, rfl, p⟩
    cases x with
    | true => exact ⟨μ1, ds, G1, hs, g1, p⟩
    | false => exact ⟨μ1, ds, G1, hs, g1, p⟩
end
end DL
/-! DLc: statements, targets, loops, defs and their calls. -/
namespace DL
open PySem PySem.Spec PyProof.Rows L2

inductive SR where
  | nx (ds : Sl) (G : Ms)
  | rt (v : DV) (G : Ms)
  | bk (ds : Sl) (G : Ms)
  | ct (ds : Sl) (G : Ms)
  | exn (x : XD) (ds : Sl) (G : Ms)
  | bad
abbrev SM := Sl → Ms → SR
abbrev TM := DV → Sl → Ms → Option (Sl × Ms)
def eS {α : Type} (r : ER α) (ds : Sl) (k : α → Ms → SR) : SR :=
  match r with
  | .ok v G => k v G
  | .exn x G => .exn x ds G
  | .bad => .bad
@[simp] theorem eS_ok {α : Type} (v : α) (G : Ms) (ds : Sl) (k : α → Ms → SR) : eS (.ok v G) ds k = k v G := rfl
@[simp] theorem eS_exn {α : Type} (x : XD) (G : Ms) (ds : Sl) (k : α → Ms → SR) : eS (.exn x G) ds k = .exn x ds G := rfl
@[simp] theorem eS_bad {α : Type} (ds : Sl) (k : α → Ms → SR) : eS (.bad) ds k = .bad := rfl
def oS (o : Option (Sl × Ms)) : SR :=
  match o with
  | some (ds, G) => .nx ds G
  | none => .bad
@[simp] theorem oS_some (ds : Sl) (G : Ms) : oS (some (ds, G)) = .nx ds G := rfl
@[simp] theorem oS_none : oS none = .bad := rfl

def SPost (K : PySem.W.Frag) (mg : MgT) (T : List (Addr × Str)) (W : WX) (D : Ends) (μ : List Addr) (H : Hp) : SR → Prop
  | .nx ds G => ∀ σ' H' μ', Step μ H μ' H' → SL K H' μ' σ' ds → GR K T H' μ' G → D.nx σ' H'
  | .bk ds G => ∀ σ' H' μ', Step μ H μ' H' → SL K H' μ' σ' ds → GR K T H' μ' G → D.bk σ' H'
  | .ct ds G => ∀ σ' H' μ', Step μ H μ' H' → SL K H' μ' σ' ds → GR K T H' μ' G → D.ct σ' H'
  | .rt v G => ∀ y H' μ', Step μ H μ' H' → IsV K H' μ' y v → GR K T H' μ' G → D.rt y H'
  | .exn x ds G => ∀ c d σ' H' μ', Step μ H μ' H' → XR K mg H' μ' c d x → SL K H' μ' σ' ds → GR K T H' μ' G → W c d σ' H'
  | .bad => False
def tS (K : PySem.W.Frag) (mg : MgT) (T : List (Addr × Str)) (W : WX) (m : SM) : TS := fun D σ H => ∃ μ ds G, SL K H μ σ ds ∧ GR K T H μ G ∧ SPost K mg T W D μ H (m ds G)
/-- a target's reading -/
def tT (K : PySem.W.Frag) (T : List (Addr × Str)) (t : TM) : TG := fun y σ H Q => ∃ μ v ds G ds' G', IsV K H μ y v ∧ SL K H μ σ ds ∧ GR K T H μ G ∧ t v ds G = some (ds', G') ∧ ∀ σ' H' μ', Step μ H μ' H' → SL K H' μ' σ' ds' → GR K T H' μ' G' → Q σ' H'
section
variable {α β : Type} {K : PySem.W.Frag} {mg : MgT} {T : List (Addr × Str)} {R : Hp → List Addr → β → α → Prop} {W : WX} {σ : L2.St} {μ μ' : List Addr} {H H' : Hp} {D : Ends}
theorem SPost.step {r : SR} (h : SPost K mg T W D μ H r) (s : Step μ H μ' H') : SPost K mg T W D μ' H' r := by
  cases r with
  | nx ds G => exact fun σ2 H2 μ2 s2 r g => h σ2 H2 μ2 (s.trans s2) r g
  | bk ds G => exact fun σ2 H2 μ2 s2 r g => h σ2 H2 μ2 (s.trans s2) r g
  | ct ds G => exact fun σ2 H2 μ2 s2 r g => h σ2 H2 μ2 (s.trans s2) r g
  | rt v G => exact fun y H2 μ2 s2 r g => h y H2 μ2 (s.trans s2) r g
  | exn x ds G => exact fun c d σ2 H2 μ2 s2 => h c d σ2 H2 μ2 (s.trans s2)
  | bad => exact h
theorem SPost.nxt {ds : Sl} {G : Ms} (h : SPost K mg T W D μ H (.nx ds G)) (hs : SL K H μ σ ds) (g : GR K T H μ G) : D.nx σ H := h σ H μ (.refl _ _) hs g
/-- an expression ahead -/
theorem SPost.ofE {r : ER α} {ds : Sl} {k : α → Ms → SR} (h : SPost K mg T W D μ H (eS r ds k)) (hs : SL K H μ σ ds) :
    Post K mg T R W σ μ H (fun y H1 => ∃ μ1 v G1, Step μ H μ1 H1 ∧ R H1 μ1 y v ∧ GR K T H1 μ1 G1 ∧ SPost K mg T W D μ1 H1 (k v G1)) r := by
  cases r with
  | ok v G => exact fun y H2 μ2 s2 r g => ⟨μ2, v, G, s2, r, g, h.step s2⟩
  | exn x G => exact fun c d H2 μ2 s2 x g => h c d σ H2 μ2 s2 x (hs.mono s2) g
  | bad => exact h
theorem tS.ofE {m : Sl → Ms → ER α} {k : α → Sl → Ms → SR} (h : tS K mg T W (fun ds G => eS (m ds G) ds fun v G1 => k v ds G1) D σ H) :
    tG K mg T R W m σ H fun y H1 => ∃ μ1 ds v G1, SL K H1 μ1 σ ds ∧ GR K T H1 μ1 G1 ∧ R H1 μ1 y v ∧ SPost K mg T W D μ1 H1 (k v ds G1) := by
  obtain ⟨μ, ds, G, hs, g, p⟩ := h
  refine ⟨μ, ds, G, hs, g, ?_⟩
  exact (SPost.ofE (R := R) p hs).mono fun y H1 ⟨μ1, v, G1, s, r, g1, q⟩ => ⟨μ1, ds, v, G1, hs.mono s, g1, r, q⟩
end

/-! ### small statements -/
def skipS : SM := fun ds G => .nx ds G
def breakS : SM := fun ds G => .bk ds G
def contS : SM := fun ds G => .ct ds G
def seqS (a b : SM) : SM := fun ds G => match a ds G with
  | .nx ds1 G1 => b ds1 G1
  | r => r
def dropS (m : EM) : SM := fun ds G => eS (m ds G) ds fun _ G1 => .nx ds G1
def retS (m : EM) : SM := fun ds G => eS (m ds G) ds fun v G1 => .rt v G1
def retNS : SM := fun _ G => .rt (.d .none) G
def ifS (c : BM) (a b : SM) : SM := fun ds G => eS (c ds G) ds fun k G1 => if k = true then a ds G1 else b ds G1
def asgS (m : EM) (t : TM) : SM := fun ds G => eS (m ds G) ds fun v G1 => oS (t v ds G1)
section
variable {X : Cx} {T : List (Addr × Str)} {W : WX} {pos : Pos} {e a b c : Expr} {es : List Expr} {ma mb mc : EM} {m : AM} {ba bb : BM} {st : Stmt} {rest : List Stmt} {sa sb : SM}
theorem s_nil : PSs X [] (tS X.K X.mg T W skipS) := pss_weak pss_nil fun D σ H h => by
  obtain ⟨μ, ds, G, hs, g, p⟩ := h
  exact SPost.nxt p hs g
theorem s_cons (h1 : PS X st (tS X.K X.mg T W sa)) (h2 : PSs X rest (tS X.K X.mg T W sb)) : PSs X (st :: rest) (tS X.K X.mg T W (seqS sa sb)) :=
  pss_weak (pss_cons h1 h2) fun D σ H h => by
    obtain ⟨μ, ds, G, hs, g, p⟩ := h
    refine ⟨μ, ds, G, hs, g, ?_⟩
    show SPost X.K X.mg T W { D with nx := tS X.K X.mg T W sb D } μ H (sa ds G)
    have p' : SPost X.K X.mg T W D μ H (match sa ds G with | .nx ds1 G1 => sb ds1 G1 | r => r) := p
    cases e : sa ds G with
    | nx ds1 G1 =>
      rw [e] at p'
      exact fun σ2 H2 μ2 s2 r g2 => ⟨μ2, ds1, G1, r, g2, p'.step s2⟩
    | bk ds1 G1 => rw [e] at p'; exact p'
    | ct ds1 G1 => rw [e] at p'; exact p'
    | rt v G1 => rw [e] at p'; exact p'
    | exn x ds1 G1 => rw [e] at p'; exact p'
    | bad => rw [e] at p'; exact p'
theorem s_one (h1 : PS X st (tS X.K X.mg T W sa)) : PSs X [st] (tS X.K X.mg T W sa) := pss_one h1
theorem s_pass : PS X (.Pass pos) (tS X.K X.mg T W skipS) := ps_weak ps_pass fun D σ H h => by
  obtain ⟨μ, ds, G, hs, g, p⟩ := h
  exact SPost.nxt p hs g
theorem s_break : PS X (.Break pos) (tS X.K X.mg T W breakS) := ps_weak ps_break fun D σ H h => by
  obtain ⟨μ, ds, G, hs, g, p⟩ := h
  exact p σ H μ (.refl _ _) hs g
theorem s_cont : PS X (.Continue pos) (tS X.K X.mg T W contS) := ps_weak ps_continue fun D σ H h => by
  obtain ⟨μ, ds, G, hs, g, p⟩ := h
  exact p σ H μ (.refl _ _) hs g
theorem s_expr (he : PE X e (tE X.K X.mg T W ma)) (hs : swapsWith e none pos.line X.env = pure false := by rfl) : PS X (.Expr e pos) (tS X.K X.mg T W (dropS ma)) :=
  ps_weak (ps_expr he hs) fun D σ H h => (tS.ofE (R := RV X.K) (k := fun _ ds G1 => .nx ds G1) h).mono fun y H1 ⟨μ1, ds, v, G1, hs, g1, r, p⟩ => SPost.nxt p hs g1
theorem s_ret (he : PE X e (tE X.K X.mg T W ma)) : PS X (.Return (some e) pos) (tS X.K X.mg T W (retS ma)) :=
  ps_weak (ps_ret he) fun D σ H h => (tS.ofE (R := RV X.K) (k := fun v ds G1 => .rt v G1) h).mono fun y H1 ⟨μ1, ds, v, G1, hs, g1, r, p⟩ => p y H1 μ1 (.refl _ _) r g1
theorem s_retN : PS X (.Return none pos) (tS X.K X.mg T W retNS) := ps_weak ps_retN fun D σ H h => by
  obtain ⟨μ, ds, G, hs, g, p⟩ := h
  exact p .non H μ (.refl _ _) .none g
theorem s_if {sta stb : List Stmt} (hc : PT X c (tB X.K X.mg T W ba)) (ha : PSs X sta (tS X.K X.mg T W sa)) (hb : PSs X stb (tS X.K X.mg T W sb)) : PS X (.If c sta stb pos) (tS X.K X.mg T W (ifS ba sa sb)) :=
  ps_weak (ps_if hc ha hb) fun D σ H h => (tS.ofE (R := RB) (k := fun k ds G1 => if k = true then sa ds G1 else sb ds G1) h).mono fun y H1 ⟨μ1, ds, v, G1, hs, g1, r, p⟩ => by
    cases r
    cases y with
    | true => exact ⟨μ1, ds, G1, hs, g1, p⟩
    | false => exact ⟨μ1, ds, G1, hs, g1, p⟩

/-! ### targets -/
def nameT (i : Nat) : TM := fun v ds G => some (ds.set i (some v), G)
abbrev TMs := List PyData → Sl → Ms → Option (Sl × Ms)
def nilT : TMs := fun xs ds G => match xs with | [] => some (ds, G) | _ :: _ => none
def consT (t : TM) (r : TMs) : TMs := fun xs ds G => match xs with
  | [] => none
  | x :: xs => (t (.d x) ds G).bind fun p => r xs p.1 p.2
def tupT (n : Nat) (ts : TMs) : TM := fun v ds G => match v with
  | .d (.tuple xs) => if xs.length = n then ts xs ds G else none
  | _ => none
def tTs (K : PySem.W.Frag) (T : List (Addr × Str)) (t : TMs) : TGs := fun ys σ H Q => ∃ μ xs ds G ds' G', IsPs K H μ ys xs ∧ SL K H μ σ ds ∧ GR K T H μ G ∧ t xs ds G = some (ds', G') ∧ ∀ σ' H' μ', Step μ H μ' H' → SL K H' μ' σ' ds' → GR K T H' μ' G' → Q σ' H'
theorem pg_weak {tg : Expr} {t t' : TG} (h : PG X tg t) (w : ∀ v σ H Q, t' v σ H Q → t v σ H Q) : PG X tg t' := ⟨fun pins s σ H v u Q I r q => h.run pins s σ H v u Q I r (w v σ H Q q)⟩
theorem pgs_weak {tg : List Expr} {t t' : TGs} (h : PGs X tg t) (w : ∀ v σ H Q, t' v σ H Q → t v σ H Q) : PGs X tg t' := ⟨fun pins s σ H v u Q I r q => h.run pins s σ H v u Q I r (w v σ H Q q)⟩
theorem g_name {i : Nat} {x : Str} (hN : X.N.Nodup) (hi : X.N[i]? = some x) (hx : Loc X.env.scope x) (hf : X.fn x = true ∨ X.env.scope.names.lookup x = some .local := by first | exact .inl rfl | exact .inr rfl | assumption) : PG X (.Name x pos) (tT X.K T (nameT i)) :=
  pg_weak (pg_name hN hi hx hf) fun y σ H Q h => by
    obtain ⟨μ, v, ds, G, ds', G', r, hs, g, e, q⟩ := h
    cases e
    exact q _ H μ (.refl _ _) (hs.set i r) g
theorem g_nil : PGs X [] (tTs X.K T nilT) := pgs_weak pgs_nil fun ys σ H Q h => by
  obtain ⟨μ, xs, ds, G, ds', G', r, hs, g, e, q⟩ := h
  cases r with
  | nil =>
    cases e
    exact ⟨rfl, q σ H μ (.refl _ _) hs g⟩
  | cons a b => cases e
theorem g_cons {tg : Expr} {tgs : List Expr} {t : TM} {ts : TMs} (h1 : PG X tg (tT X.K T t)) (h2 : PGs X tgs (tTs X.K T ts))
    (hs : (assignEach (tg :: tgs) X.env).map (·.2) = assign tg X.env :: (assignEach tgs X.env).map (·.2) := by rfl) : PGs X (tg :: tgs) (tTs X.K T (consT t ts)) :=
  pgs_weak (pgs_cons h1 h2 hs) fun ys σ H Q h => by
    obtain ⟨μ, xs, ds, G, ds', G', r, hs, g, e, q⟩ := h
    cases r with
    | nil => cases e
    | @cons y x ys xs a b =>
      have e' : ((t (.d x) ds G).bind fun p => ts xs p.1 p.2) = some (ds', G') := e
      cases e1 : t (.d x) ds G with
      | none => rw [e1] at e'; cases e'
      | some p =>
        rw [e1] at e'
        refine ⟨_, _, rfl, μ, .d x, ds, G, p.1, p.2, a, hs, g, e1, fun σ1 H1 μ1 s1 hs1 g1 => ?_⟩
        exact ⟨μ1, xs, p.1, p.2, ds', G', IsPs.mono s1 b, hs1, g1, e', fun σ2 H2 μ2 s2 hs2 g2 => q σ2 H2 μ2 (s1.trans s2) hs2 g2⟩
theorem g_tup {tgs : List Expr} {k n : Nat} {ts : TMs} (hc : X.calm = true) (h : PGs X tgs (tTs X.K T ts))
    (hn : (assignEach tgs X.env).length = n := by rfl) (hst : (assignEach tgs X.env).findIdx? (·.1) = none := by rfl) : PG X (.Tuple tgs k pos) (tT X.K T (tupT n ts)) :=
  pg_weak (pg_tup hc h hn hst) fun y σ H Q h => by
    obtain ⟨μ, v, ds, G, ds', G', r, hs, g, e, q⟩ := h
    unfold tupT at e
    split at e
    · rename_i xs
      split at e
      · rename_i hl
        have r' : IsP X.K H μ y (.tuple xs) := r
        cases r' with
        | tup f b => exact ⟨_, _, rfl, f.sqT, b.length.trans hl, μ, xs, ds, G, ds', G', b, hs, g, e, q⟩
        | tupK f b => exact ⟨_, _, rfl, sqT_of f, b.length.trans hl, μ, xs, ds, G, ds', G', b, hs, g, e, q⟩
      · cases e
    · cases e
theorem oS_post {K : PySem.W.Frag} {mg : MgT} {σ : L2.St} {μ : List Addr} {H : Hp} {D : Ends} {t : TM} {v : DV} {ds : Sl} {G : Ms} {y : V} (p : SPost K mg T W D μ H (oS (t v ds G))) (r : IsV K H μ y v) (hs : SL K H μ σ ds) (g : GR K T H μ G) : tT K T t y σ H D.nx := by
  cases e : t v ds G with
  | none => rw [e] at p; exact p.elim
  | some q =>
    rw [e] at p
    exact ⟨μ, v, ds, G, q.1, q.2, r, hs, g, e, fun σ' H' μ' s hs' g' => p σ' H' μ' s hs' g'⟩
theorem s_asg {tg : Expr} {t : TM} (he : PE X e (tE X.K X.mg T W ma)) (hg : PG X tg (tT X.K T t)) (hs : swapsWithSole [tg] e pos.line X.env = pure false := by rfl) (hw : swappedStores [tg] e X.env = pure none := by rfl)
    (h1 : (assignEach [tg] X.env).map (·.2) = [assign tg X.env] := by rfl) : PS X (.Assign [tg] e pos) (tS X.K X.mg T W (asgS ma t)) :=
  ps_weak (ps_asg he hg hs hw h1) fun D σ H h => (tS.ofE (R := RV X.K) (k := fun v ds G1 => oS (t v ds G1)) h).mono fun y H1 ⟨μ1, ds, v, G1, hs, g1, r, p⟩ => oS_post p r hs g1
theorem s_set {i : Nat} {x : Str} {pos' : Pos} (hN : X.N.Nodup) (hi : X.N[i]? = some x) (hx : Loc X.env.scope x) (he : PE X e (tE X.K X.mg T W ma)) (hs : swapsWith e (some (.Name x pos')) pos.line X.env = pure false := by rfl) (hf : X.fn x = true ∨ X.env.scope.names.lookup x = some .local := by first | exact .inl rfl | exact .inr rfl | assumption) :
    PS X (.Assign [.Name x pos'] e pos) (tS X.K X.mg T W (asgS ma (nameT i))) :=
  ps_weak (ps_set hN hi hx he hs hf) fun D σ H h => (tS.ofE (R := RV X.K) (k := fun v ds G1 => oS (nameT i v ds G1)) h).mono fun y H1 ⟨μ1, ds, v, G1, hs, g1, r, p⟩ => p _ H1 μ1 (.refl _ _) (hs.set i r) g1

/-- a, b = x, y with plain names: stored from the right -/
def parS (i j : Nat) (ma mb : EM) : SM := fun ds G => eS (ma ds G) ds fun v G1 => eS (mb ds G1) ds fun u G2 => .nx ((ds.set i (some v)).set j (some u)) G2
theorem s_par {i j : Nat} {x y : Str} {px py pt : Pos} {kt k2 pt2} (hc : X.calm = true) (hN : X.N.Nodup) (hi : X.N[i]? = some x) (hj : X.N[j]? = some y) (hij : i ≠ j)
    (hx : X.env.scope.names.lookup x = some .local) (hy : X.env.scope.names.lookup y = some .local) (ha : PE X a (tE X.K X.mg T W ma)) (hb : PE X b (tE X.K X.mg T W mb))
    (hw : swappedStores [.Tuple [.Name x px, .Name y py] kt pt] (.Tuple [a, b] k2 pt2) X.env = pure (some [x, y]))
    (hs : swapsWithSole [.Tuple [.Name x px, .Name y py] kt pt] (.Tuple [a, b] k2 pt2) pos.line X.env = pure false := by rfl)
    (h1 : starEach [a, b] X.env = (false, eval a X.env) :: starEach [b] X.env := by rfl) (h2 : starEach [b] X.env = (false, eval b X.env) :: starEach [] X.env := by rfl) :
    PS X (.Assign [.Tuple [.Name x px, .Name y py] kt pt] (.Tuple [a, b] k2 pt2) pos) (tS X.K X.mg T W (parS i j ma mb)) :=
  ps_weak (ps_par hc hN hi hj hij hx hy (pa_cons ha (pa_cons hb pa_nil h2) h1) hw hs) fun D σ H h => by
    refine (tS.ofE (R := RV X.K) (k := fun v ds G1 => eS (mb ds G1) ds fun u G2 => .nx ((ds.set i (some v)).set j (some u)) G2) h).mono ?_
    rintro z H1 ⟨μ1, ds, v, G1, hs, g1, r, p⟩
    refine ⟨μ1, ds, G1, hs, g1, ?_⟩
    refine (SPost.ofE (R := RV X.K) p hs).mono ?_
    rintro w H2 ⟨μ2, u, G2, s, r2, g2, p2⟩
    exact ⟨z, w, rfl, p2 _ H2 μ2 (.refl _ _) (((hs.mono s).set i (r.mono s)).set j r2) g2⟩

/-- name op= e -/
def augS (i : Nat) (f : OpF) (ma : EM) : SM := fun ds G => match ds[i]? with
  | some (some v) => eS (ma ds G) ds fun u G1 => eS (liftO (f v u G1)) ds fun w G2 => .nx (ds.set i (some w)) G2
  | _ => .bad
theorem s_aug {i : Nat} {x : Str} {op : Operator} {f : OpF} {pos' : Pos} (hN : X.N.Nodup) (hi : X.N[i]? = some x) (hx : Loc X.env.scope x) (he : PE X e (tE X.K X.mg T W ma)) (ho : OpR X (inplaceOp op) (rD X.K T f)) (hf : X.fn x = true ∨ X.env.scope.names.lookup x = some .local := by first | exact .inl rfl | exact .inr rfl | assumption) :
    PS X (.AugAssign (.Name x pos') op e pos) (tS X.K X.mg T W (augS i f ma)) :=
  ps_weak (ps_aug hN hi hx he ho hf) fun D σ H h => by
    obtain ⟨μ, ds, G, hs, g, p⟩ := h
    unfold augS at p
    split at p
    · rename_i v hv
      obtain ⟨y, e1, r⟩ := hs.at_ i v hv
      refine ⟨y, e1, μ, ds, G, hs, g, ?_⟩
      refine (SPost.ofE (R := RV X.K) p hs).mono ?_
      rintro z H1 ⟨μ1, u, G1, s, r1, g1, p1⟩
      cases e2 : f v u G1 with
      | none => rw [e2] at p1; exact p1.elim
      | some q =>
        rw [e2] at p1
        refine ⟨μ1, v, u, G1, q.1, q.2, r.mono s, r1, g1, e2, fun w H2 μ2 s2 r2 g2 => ?_⟩
        exact p1 _ H2 μ2 s2 (((hs.mono s).mono s2).set i r2) g2
    · exact p.elim

/-! ### o[i] = v -/
abbrev SetF := DV → DV → DV → Ms → Option Ms
def rSet (K : PySem.W.Frag) (T : List (Addr × Str)) (f : SetF) : TSet := fun o i v H Q => ∃ μ o' i' v' G G', IsV K H μ o o' ∧ IsV K H μ i i' ∧ IsV K H μ v v' ∧ GR K T H μ G ∧ f o' i' v' G = some G' ∧ ∀ H' μ', Step μ H μ' H' → GR K T H' μ' G' → Q H'
/-- o, i evaluated behind the value -/
def ixAsgS (m mo mi : EM) (f : SetF) : SM := fun ds G => eS (m ds G) ds fun v G1 => eS (mo ds G1) ds fun o G2 => eS (mi ds G2) ds fun i G3 => match f o i v G3 with
  | some G4 => .nx ds G4
  | none => .bad
theorem s_asgIx {o i : Expr} {f : SetF} {spos : Pos} (he : PE X e (tE X.K X.mg T W ma)) (ho : PE X o (tE X.K X.mg T W mb)) (hi : PE X i (tE X.K X.mg T W mc)) (hset : PSet X (rSet X.K T f))
    (ha : ∀ v, assign (.Subscript o i spos) X.env v = (do
      let ov ← holding [v] (eval o X.env)
      let iv ← holding [v, ov] (eval i X.env)
      standAt spos
      holding [v, ov, iv] (setItem ov iv v)
      release [v, ov, iv] []) := by intro _; rfl)
    (hs : swapsWithSole [.Subscript o i spos] e pos.line X.env = pure false := by rfl) (hw : swappedStores [.Subscript o i spos] e X.env = pure none := by rfl)
    (h1 : (assignEach [.Subscript o i spos] X.env).map (·.2) = [assign (.Subscript o i spos) X.env] := by rfl) : PS X (.Assign [.Subscript o i spos] e pos) (tS X.K X.mg T W (ixAsgS ma mb mc f)) :=
  ps_weak (ps_asg he (pg_sub ho hi hset ha) hs hw h1) fun D σ H h => by
    refine (tS.ofE (R := RV X.K) (k := fun v ds G1 => eS (mb ds G1) ds fun o G2 => eS (mc ds G2) ds fun i G3 => match f o i v G3 with | some G4 => .nx ds G4 | none => .bad) h).mono ?_
    rintro y H1 ⟨μ1, ds, v, G1, hs, g1, r, p⟩
    refine ⟨μ1, ds, G1, hs, g1, ?_⟩
    refine (SPost.ofE (R := RV X.K) p hs).mono ?_
    rintro yo H2 ⟨μ2, o', G2, s2, r2, g2, p2⟩
    refine ⟨μ2, ds, G2, hs.mono s2, g2, ?_⟩
    refine (SPost.ofE (R := RV X.K) p2 (hs.mono s2)).mono ?_
    rintro yi H3 ⟨μ3, i', G3, s3, r3, g3, p3⟩
    have hs3 := (hs.mono s2).mono s3
    cases e4 : f o' i' v G3 with
    | none =>
      simp only [e4] at p3
      exact p3.elim
    | some G4 =>
      simp only [e4] at p3
      exact ⟨μ3, o', i', v, G3, G4, r2.mono s3, r3, (r.mono s2).mono s3, g3, e4, fun H4 μ4 s4 g4 => p3 σ H4 μ4 s4 (hs3.mono s4) g4⟩
/-- o[i] op= e -/
def rGet (K : PySem.W.Frag) (T : List (Addr × Str)) (f : OpF) : V → V → Hp → VK → Prop := rD K T f
def ixAugS (mo mi : EM) (get : OpF) (m : EM) (f : OpF) (set : SetF) : SM := fun ds G => eS (mo ds G) ds fun o G1 => eS (mi ds G1) ds fun i G2 => eS (liftO (get o i G2)) ds fun v G3 => eS (m ds G3) ds fun u G4 => eS (liftO (f v u G4)) ds fun w G5 => match set o i w G5 with
  | some G6 => .nx ds G6
  | none => .bad
theorem s_augIx {o i : Expr} {get f : OpF} {set : SetF} {op : Operator} {tpos : Pos} (ho : PE X o (tE X.K X.mg T W mb)) (hi : PE X i (tE X.K X.mg T W mc)) (hget : PGet X (rD X.K T get)) (he : PE X e (tE X.K X.mg T W ma)) (hop : OpR X (inplaceOp op) (rD X.K T f)) (hset : PSet X (rSet X.K T set))
    (ha : ∀ ov iv new, augStore i ov iv new = (do holding [new, ov, iv] (setItem ov iv new); release [new, ov, iv] []; pure .next) := by intros; rfl) : PS X (.AugAssign (.Subscript o i tpos) op e pos) (tS X.K X.mg T W (ixAugS mb mc get ma f set)) :=
  ps_weak (ps_augS ho hi hget he hop hset ha) fun D σ H h => by
    refine (tS.ofE (R := RV X.K) (k := fun o ds G1 => eS (mc ds G1) ds fun i G2 => eS (liftO (get o i G2)) ds fun v G3 => eS (ma ds G3) ds fun u G4 => eS (liftO (f v u G4)) ds fun w G5 => match set o i w G5 with | some G6 => .nx ds G6 | none => .bad) h).mono ?_
    rintro yo H1 ⟨μ1, ds, o', G1, hs1, g1, r1, p1⟩
    refine ⟨μ1, ds, G1, hs1, g1, ?_⟩
    refine (SPost.ofE (R := RV X.K) p1 hs1).mono ?_
    rintro yi H2 ⟨μ2, i', G2, s2, r2, g2, p2⟩
    have hs2 := hs1.mono s2
    cases e2 : get o' i' G2 with
    | none => rw [e2] at p2; exact p2.elim
    | some q =>
      obtain ⟨q1, q2⟩ := q
      rw [e2] at p2
      simp only [liftO_some, eS_ok] at p2
      refine ⟨μ2, o', i', G2, q1, q2, r1.mono s2, r2, g2, e2, fun yv H3 μ3 s3 r3 g3 => ?_⟩
      have hs3 := hs2.mono s3
      refine ⟨μ3, ds, q2, hs3, g3, ?_⟩
      have p3 := SPost.step p2 s3
      refine (SPost.ofE (R := RV X.K) p3 hs3).mono ?_
      rintro yu H4 ⟨μ4, u, G4, s4, r4, g4, p4⟩
      cases e4 : f q1 u G4 with
      | none => rw [e4] at p4; exact p4.elim
      | some q4 =>
        obtain ⟨w4, w5⟩ := q4
        rw [e4] at p4
        simp only [liftO_some, eS_ok] at p4
        refine ⟨μ4, q1, u, G4, w4, w5, r3.mono s4, r4, g4, e4, fun yw H5 μ5 s5 r5 g5 => ?_⟩
        have p5 := SPost.step p4 s5
        have hs5 := (hs3.mono s4).mono s5
        cases e5 : set o' i' w4 w5 with
        | none => simp only [e5] at p5; exact p5.elim
        | some G6 =>
          simp only [e5] at p5
          exact ⟨μ5, o', i', w4, w5, G6, ((r1.mono s2).mono (s3.trans s4)).mono s5, (r2.mono (s3.trans s4)).mono s5, r5, g5, e5, fun H6 μ6 s6 g6 => p5 σ H6 μ6 s6 (hs5.mono s6) g6⟩
end
end DL
/-! DLd: what is walked, for, while, list comprehensions, defs, calls. -/
namespace DL
open PySem PySem.Spec PyProof.Rows L2

/-- where the items come from: they stand by themselves, or they are those of a mutable list -/
inductive Src where
  | pure
  | ref (n : Nat) (xs : List PyData)
def Src.ok (s : Src) (G : Ms) : Prop := match s with
  | .pure => True
  | .ref n xs => G[n]? = some (.lst xs)
@[simp] theorem Src.ok_pure (G : Ms) : Src.pure.ok G = True := rfl
@[simp] theorem Src.ok_ref (n : Nat) (xs : List PyData) (G : Ms) : (Src.ref n xs).ok G = (G[n]? = some (.lst xs)) := rfl
structure Walks (K : PySem.W.Frag) (T : List (Addr × Str)) (H0 : Hp) (μ0 : List Addr) (J : It) (xs : List PyData) (s : Src) : Prop where
  go : ∀ H μ G i, Step μ0 H0 μ H → GR K T H μ G → s.ok G → i < xs.length → J.go i H
  yld : ∀ H μ G i y H', Step μ0 H0 μ H → GR K T H μ G → s.ok G → i < xs.length → J.yld i H y H' → Step μ H μ H' ∧ GR K T H' μ G ∧ ∃ d, xs[i]? = some d ∧ IsP K H' μ y d
  stop : ∀ H μ G i, Step μ0 H0 μ H → GR K T H μ G → s.ok G → xs.length ≤ i → J.stop i H
abbrev IM := Sl → Ms → ER (List PyData × Src)
abbrev RI (K : PySem.W.Frag) (T : List (Addr × Str)) : Hp → List Addr → It → (List PyData × Src) → Prop := fun H μ J p => Walks K T H μ J p.1 p.2
abbrev tI (K : PySem.W.Frag) (mg : MgT) (T : List (Addr × Str)) (W : WX) (m : IM) : TI := tG K mg T (RI K T) W m
theorem pi_weak {X : Cx} {tg it : Expr} {t t' : TI} (h : PI X tg it t) (w : ∀ σ H Q, t' σ H Q → t σ H Q) : PI X tg it t' := ⟨fun pins s σ H Q I q => h.run pins s σ H Q I (w σ H Q q)⟩

section open Classical
noncomputable def forN (t : TM) (b : SM) (s : Src) : List PyData → Sl → Ms → SR
  | [], ds, G => if s.ok G then .nx ds G else .bad
  | x :: r, ds, G => if s.ok G then (match t (.d x) ds G with
      | some p => (match b p.1 p.2 with
        | .nx ds2 G2 => forN t b s r ds2 G2
        | .ct ds2 G2 => forN t b s r ds2 G2
        | .bk ds2 G2 => .nx ds2 G2
        | q => q)
      | none => .bad) else .bad
noncomputable def forS (im : IM) (t : TM) (b : SM) : SM := fun ds G => eS (im ds G) ds fun p G1 => forN t b p.2 p.1 ds G1
/-- the list that is being made, of the items acc, is still the store's last object -/
noncomputable def back (n : Nat) (acc : List PyData) (G : Ms) : Option Ms := if G.length = n + 1 ∧ G[n]? = some (.lst acc) then some (G.take n) else none
noncomputable def compN (t : TM) (c : BM) (e : EM) (s : Src) (dw : Sl) : List PyData → List PyData → Ms → ER (List PyData)
  | [], acc, G => if s.ok (G ++ [.lst acc]) then .ok acc G else .bad
  | x :: r, acc, G => if s.ok (G ++ [.lst acc]) then (match t (.d x) dw (G ++ [.lst acc]) with
      | none => .bad
      | some p => match c p.1 p.2 with
        | .ok true G1 => (match e p.1 G1 with
          | .ok (.d y) G2 => if acc.length < sizeLine then (match back G.length acc G2 with
            | some G3 => compN t c e s dw r (acc ++ [y]) G3
            | none => .bad) else .bad
          | _ => .bad)
        | .ok false G1 => (match back G.length acc G1 with
          | some G3 => compN t c e s dw r acc G3
          | none => .bad)
        | _ => .bad) else .bad
end
def whileN (c : BM) (b : SM) : Nat → Sl → Ms → SR
  | 0, _, _ => .bad
  | n + 1, ds, G => eS (c ds G) ds fun k G1 => if k = true then (match b ds G1 with
      | .nx ds2 G2 => whileN c b n ds2 G2
      | .ct ds2 G2 => whileN c b n ds2 G2
      | .bk ds2 G2 => .nx ds2 G2
      | q => q) else .nx ds G1
def whileS (fuel : Sl → Ms → Nat) (c : BM) (b : SM) : SM := fun ds G => whileN c b (fuel ds G) ds G

section
variable {X : Cx} {T : List (Addr × Str)} {W : WX} {pos : Pos} {e a b c : Expr} {es : List Expr} {ma mb mc : EM} {m : AM} {ba bb : BM} {st : Stmt} {rest : List Stmt} {sa sb : SM} {im : IM} {t : TM} {tg iter : Expr} {body : List Stmt}
theorem s_for (hp : PassesOwn (model X.prog X.w) X.A X.env X.xe) (hc : X.calm = true) (hi : PI X tg iter (tI X.K X.mg T W im)) (hg : PG X tg (tT X.K T t)) (hb : PSs X body (tS X.K X.mg T W sb))
    (hs : ∀ x, foldedSetIterable iter X.env x = pure x := by intro _; rfl) : PS X (.For tg iter body [] pos) (tS X.K X.mg T W (forS im t sb)) :=
  ps_weak (ps_for hp hc hi hg hb hs) fun D σ H h => by
    refine (tS.ofE (R := RI X.K T) (k := fun p ds G1 => forN t sb p.2 p.1 ds G1) h).mono ?_
    rintro J H1 ⟨μ1, ds1, ⟨xs, s⟩, G1, hs1, g1, wk, p1⟩
    refine ⟨fun i m σ H => m = xs.length - i ∧ i ≤ xs.length ∧ ∃ μ ds G, Step μ1 H1 μ H ∧ SL X.K H μ σ ds ∧ GR X.K T H μ G ∧ SPost X.K X.mg T W D μ H (forN t sb s (xs.drop i) ds G), ⟨xs.length, by simp, Nat.zero_le _, μ1, ds1, G1, .refl _ _, hs1, g1, by simpa using p1⟩, ?_⟩
    rintro i m σ2 H2 ⟨rfl, hi2, μ2, ds2, G2, s2, hs2, g2, p2⟩
    by_cases hlt : i < xs.length
    · rw [List.drop_eq_getElem_cons hlt] at p2
      unfold forN at p2
      by_cases ok : s.ok G2
      · rw [if_pos ok] at p2
        refine .inr ⟨wk.go H2 μ2 G2 i s2 g2 ok hlt, fun σ' H' => ∃ μ ds G, Step μ1 H1 μ H' ∧ SL X.K H' μ σ' ds ∧ GR X.K T H' μ G ∧ SPost X.K X.mg T W D μ H' (forN t sb s (xs.drop (i + 1)) ds G), fun σ' H' q => ⟨xs.length - (i + 1), by omega, rfl, hlt, q⟩, fun y H3 hy => ?_⟩
        obtain ⟨s3, g3, d, hd, r⟩ := wk.yld H2 μ2 G2 i y H3 s2 g2 ok hlt hy
        have ed : d = xs[i] := by rw [List.getElem?_eq_getElem hlt] at hd; exact (Option.some.inj hd).symm
        subst ed
        cases et : t (.d xs[i]) ds2 G2 with
        | none => rw [et] at p2; exact p2.elim
        | some q =>
          rw [et] at p2
          refine ⟨μ2, .d xs[i], ds2, G2, q.1, q.2, r, hs2.mono s3, g3, et, fun σ4 H4 μ4 s4 hs4 g4 => ⟨μ4, q.1, q.2, hs4, g4, ?_⟩⟩
          have st := s3.trans s4
          have p4 := SPost.step p2 st
          simp only at p4
          cases eb : sb q.1 q.2 with
          | nx ds5 G5 =>
            rw [eb] at p4
            exact fun σ6 H6 μ6 s6 hs6 g6 => ⟨μ6, ds5, G5, (s2.trans st).trans s6, hs6, g6, p4.step s6⟩
          | ct ds5 G5 =>
            rw [eb] at p4
            exact fun σ6 H6 μ6 s6 hs6 g6 => ⟨μ6, ds5, G5, (s2.trans st).trans s6, hs6, g6, p4.step s6⟩
          | bk ds5 G5 =>
            rw [eb] at p4
            exact fun σ6 H6 μ6 s6 hs6 g6 => p4 σ6 H6 μ6 s6 hs6 g6
          | rt v G5 => rw [eb] at p4; exact p4
          | exn x ds5 G5 => rw [eb] at p4; exact p4
          | bad => rw [eb] at p4; exact p4
      · rw [if_neg ok] at p2
        exact p2.elim
    · have e : xs.length ≤ i := by omega
      rw [List.drop_eq_nil_of_le e] at p2
      unfold forN at p2
      by_cases ok : s.ok G2
      · rw [if_pos ok] at p2
        exact .inl ⟨wk.stop H2 μ2 G2 i s2 g2 ok e, SPost.nxt p2 hs2 g2⟩
      · rw [if_neg ok] at p2
        exact p2.elim
theorem s_while {fuel : Sl → Ms → Nat} (hp : PassesOwn (model X.prog X.w) X.A X.env X.xe) (hc : PT X c (tB X.K X.mg T W ba)) (hb : PSs X body (tS X.K X.mg T W sb)) : PS X (.While c body [] pos) (tS X.K X.mg T W (whileS fuel ba sb)) :=
  ps_weak (ps_while hp hc hb) fun D σ H h => by
    obtain ⟨μ0, ds0, G0, hs0, g0, p0⟩ := h
    refine ⟨fun m σ H => ∃ μ ds G, SL X.K H μ σ ds ∧ GR X.K T H μ G ∧ SPost X.K X.mg T W D μ H (whileN ba sb m ds G), ⟨_, μ0, ds0, G0, hs0, g0, p0⟩, ?_⟩
    rintro m σ2 H2 ⟨μ2, ds2, G2, hs2, g2, p2⟩
    cases m with
    | zero => exact p2.elim
    | succ n =>
      unfold whileN at p2
      refine ⟨μ2, ds2, G2, hs2, g2, ?_⟩
      refine (SPost.ofE (R := RB) p2 hs2).mono ?_
      rintro k H3 ⟨μ3, v, G3, s3, rfl, g3, p3⟩
      cases k with
      | false => exact SPost.nxt p3 (hs2.mono s3) g3
      | true =>
        rw [if_pos rfl] at p3 ⊢
        refine ⟨fun σ' H' => ∃ μ ds G, SL X.K H' μ σ' ds ∧ GR X.K T H' μ G ∧ SPost X.K X.mg T W D μ H' (whileN ba sb n ds G), fun σ' H' q => ⟨n, Nat.lt_succ_self _, q⟩, μ3, ds2, G3, hs2.mono s3, g3, ?_⟩
        cases eb : sb ds2 G3 with
        | nx ds5 G5 =>
          rw [eb] at p3
          exact fun σ6 H6 μ6 s6 hs6 g6 => ⟨μ6, ds5, G5, hs6, g6, p3.step s6⟩
        | ct ds5 G5 =>
          rw [eb] at p3
          exact fun σ6 H6 μ6 s6 hs6 g6 => ⟨μ6, ds5, G5, hs6, g6, p3.step s6⟩
        | bk ds5 G5 =>
          rw [eb] at p3
          exact fun σ6 H6 μ6 s6 hs6 g6 => p3 σ6 H6 μ6 s6 hs6 g6
        | rt v G5 => rw [eb] at p3; exact p3
        | exn x ds5 G5 => rw [eb] at p3; exact p3
        | bad => rw [eb] at p3; exact p3

/-! ### what is walked -/
/-- a list or a tuple by its value -/
def seqI : DV → Ms → Option ((List PyData × Src) × Ms)
  | .d (.list xs), G => some ((xs, .pure), G)
  | .mr n, G => match G[n]? with | some (.lst xs) => some ((xs, .ref n xs), G) | _ => none
  | _, _ => none
def tupI : DV → Ms → Option ((List PyData × Src) × Ms)
  | .d (.tuple xs), G => some ((xs, .pure), G)
  | _, _ => none
def iterE (f : DV → Ms → Option ((List PyData × Src) × Ms)) (ma : EM) : IM := fun ds G => (ma ds G).bind fun v G1 => liftO (f v G1)
/-- a list that stands at a, as the heap tells it -/
theorem walks_list {K : PySem.W.Frag} {H0 : Hp} {μ0 : List Addr} {a : Addr} {xs : List PyData} {s : Src} (h : ∀ H μ G, Step μ0 H0 μ H → GR K T H μ G → s.ok G → ∃ vs, SqL K H a vs ∧ IsPs K H μ vs xs) : Walks K T H0 μ0 (Itl K a) xs s := by
  refine ⟨fun H μ G i st g ok hi => ?_, fun H μ G i y H' st g ok hi hy => ?_, fun H μ G i st g ok hi => ?_⟩
  · obtain ⟨vs, q, r⟩ := h H μ G st g ok
    have hv : i < vs.length := by rw [r.length]; exact hi
    exact ⟨vs, vs[i], q, List.getElem?_eq_getElem hv⟩
  · obtain ⟨vs, q, r⟩ := h H μ G st g ok
    obtain ⟨rfl, hy⟩ := hy
    obtain ⟨d, e, p⟩ := r.getV (hy vs q)
    exact ⟨.refl _ _, g, d, e, p⟩
  · obtain ⟨vs, q, r⟩ := h H μ G st g ok
    exact ⟨vs, q, by rw [r.length]; exact hi⟩
theorem walks_tup {K : PySem.W.Frag} {H0 : Hp} {μ0 : List Addr} {a : Addr} {xs : List PyData} {s : Src} (h : ∀ H μ G, Step μ0 H0 μ H → GR K T H μ G → s.ok G → ∃ vs, SqT K H a vs ∧ IsPs K H μ vs xs) : Walks K T H0 μ0 (Itt K a) xs s := by
  refine ⟨fun H μ G i st g ok hi => ?_, fun H μ G i y H' st g ok hi hy => ?_, fun H μ G i st g ok hi => ?_⟩
  · obtain ⟨vs, q, r⟩ := h H μ G st g ok
    have hv : i < vs.length := by rw [r.length]; exact hi
    exact ⟨vs, vs[i], q, List.getElem?_eq_getElem hv⟩
  · obtain ⟨vs, q, r⟩ := h H μ G st g ok
    obtain ⟨rfl, hy⟩ := hy
    obtain ⟨d, e, p⟩ := r.getV (hy vs q)
    exact ⟨.refl _ _, g, d, e, p⟩
  · obtain ⟨vs, q, r⟩ := h H μ G st g ok
    exact ⟨vs, q, by rw [r.length]; exact hi⟩
/-- the list that a value is -/
theorem seqI_at {K : PySem.W.Frag} {H : Hp} {μ : List Addr} {G : Ms} {y : V} {v : DV} {xs : List PyData} {s : Src} {G' : Ms} (r : IsV K H μ y v) (g : GR K T H μ G) (e : seqI v G = some ((xs, s), G')) :
    G' = G ∧ ∃ a, y = .ref a ∧ (∃ vs, SqL K H a vs) ∧ Walks K T H μ (Itl K a) xs s := by
  cases v with
  | d x =>
    have r' : IsP K H μ y x := r
    cases r' with
    | none => cases e
    | bool b => cases e
    | int i => cases e
    | str x => cases e
    | tup f h => cases e
    | tupK f h => cases e
    | lst f h =>
      cases e
      exact ⟨rfl, _, rfl, ⟨_, f.sqL⟩, walks_list fun H' μ' G' st g' _ => ⟨_, (f.mono trivial st).sqL, IsPs.mono st h⟩⟩
    | dct f h => cases e
  | fn a => cases e
  | mr n =>
    obtain ⟨a, rfl, hm⟩ := r
    have e' : (match G[n]? with | some (.lst xs) => some ((xs, Src.ref n xs), G) | _ => none) = some ((xs, s), G') := e
    cases hG : G[n]? with
    | none => rw [hG] at e'; cases e'
    | some o =>
      cases o with
      | lst xs =>
        rw [hG] at e'
        cases e'
        obtain ⟨vs, h1, h2⟩ := g.at_ n a _ hm hG
        refine ⟨rfl, a, rfl, ⟨_, .of h1⟩, walks_list fun H' μ' G' st g' ok => ?_⟩
        obtain ⟨vs', h1', h2'⟩ := g'.at_ n a _ (pre_get st.pre hm) ok
        exact ⟨vs', .of h1', h2'⟩
  | scr ns => cases e
theorem i_list (he : PE X e (tE X.K X.mg T W ma)) : PI X tg e (tI X.K X.mg T W (iterE seqI ma)) :=
  pi_weak (pi_list he) fun σ H Q h => by
    refine (tG.bind (R := RV X.K) (f := fun v ds G1 => liftO (seqI v G1)) h).mono ?_
    rintro y H1 ⟨μ1, ds, v, G1, hs, g1, r, p⟩
    cases e1 : seqI v G1 with
    | none => rw [e1] at p; exact p.elim
    | some q =>
      obtain ⟨⟨xs, s⟩, G2⟩ := q
      rw [e1] at p
      obtain ⟨rfl, a, rfl, hv, wk⟩ := seqI_at r g1 e1
      exact ⟨a, rfl, hv, Post.okv (R := RI X.K T) p g1 wk⟩
theorem i_tup (he : PE X e (tE X.K X.mg T W ma)) : PI X tg e (tI X.K X.mg T W (iterE tupI ma)) :=
  pi_weak (pi_tup he) fun σ H Q h => by
    refine (tG.bind (R := RV X.K) (f := fun v ds G1 => liftO (tupI v G1)) h).mono ?_
    rintro y H1 ⟨μ1, ds, v, G1, hs, g1, r, p⟩
    cases e1 : tupI v G1 with
    | none => rw [e1] at p; exact p.elim
    | some q =>
      obtain ⟨⟨xs, s⟩, G2⟩ := q
      rw [e1] at p
      cases v with
      | d x =>
        have r' : IsP X.K H1 μ1 y x := r
        cases r' <;> cases e1
        · rename_i a vs f h
          exact ⟨a, rfl, ⟨_, f.sqT⟩, Post.okv (R := RI X.K T) p g1 (walks_tup fun H' μ' G' st g' _ => ⟨_, (f.mono trivial st).sqT, IsPs.mono st h⟩)⟩
        · rename_i a vs f h
          exact ⟨a, rfl, ⟨_, sqT_of f⟩, Post.okv (R := RI X.K T) p g1 (walks_tup fun H' μ' G' st g' _ => ⟨_, sqT_of f, IsPs.mono st h⟩)⟩
      | fn a => cases e1
      | mr n => cases e1
      | scr ns => cases e1
/-- range(..) -/
def rangeD (lo : Int) (n : Nat) : List PyData := (List.range n).map fun (i : Nat) => PyData.int (lo + i)
theorem walks_range {K : PySem.W.Frag} {H0 : Hp} {μ0 : List Addr} {lo : Int} {n : Nat} : Walks K T H0 μ0 (Itr lo n) (rangeD lo n) .pure := by
  have hl : (rangeD lo n).length = n := by simp [rangeD]
  refine ⟨fun H μ G i st g ok hi => ?_, fun H μ G i y H' st g ok hi hy => ?_, fun H μ G i st g ok hi => ?_⟩
  · rw [hl] at hi; exact hi
  · obtain ⟨rfl, rfl⟩ := hy
    rw [hl] at hi
    exact ⟨.refl _ _, g, .int (lo + i), by simp [rangeD, hi], .int _⟩
  · rw [hl] at hi; exact hi
def range1F : List DV → Ms → Option ((List PyData × Src) × Ms) := fun vs G => match vs with
  | [.d (.int j)] => if -(2 ^ 62) ≤ j ∧ j < 2 ^ 62 then some ((rangeD 0 j.toNat, .pure), G) else none
  | _ => none
def range2F : List DV → Ms → Option ((List PyData × Src) × Ms) := fun vs G => match vs with
  | [.d (.int i), .d (.int j)] => if -(2 ^ 62) ≤ i ∧ i < 2 ^ 62 ∧ -(2 ^ 62) ≤ j ∧ j < 2 ^ 62 then some ((rangeD i (j - i).toNat, .pure), G) else none
  | _ => none
def iterA (f : List DV → Ms → Option ((List PyData × Src) × Ms)) (m : AM) : IM := fun ds G => (m ds G).bind fun vs G1 => liftO (f vs G1)
theorem isV_int {K : PySem.W.Frag} {H : Hp} {μ : List Addr} {y : V} {i : Int} (r : IsV K H μ y (.d (.int i))) : y = .int i := by
  have r' : IsP K H μ y (.int i) := r
  cases r'
  rfl
theorem i_range1 {p : Pos} (hg : Gl X "range") (hm : X.mg "range" = none) (ha : PA X [a] (tL X.K X.mg T W m)) (hs : starEach [a] X.env = [(false, eval a X.env)] := by rfl) : PI X tg (.Call (.Name "range" p) [a] [] pos) (tI X.K X.mg T W (iterA range1F m)) :=
  pi_weak (pi_range1 hg hm ha hs) fun σ H Q h => by
    refine (tG.bind (R := RA X.K) (f := fun v ds G1 => liftO (range1F v G1)) h).mono ?_
    rintro y H1 ⟨μ1, ds, vs, G1, hs, g1, r, p⟩
    cases e1 : range1F vs G1 with
    | none => rw [e1] at p; exact p.elim
    | some q =>
      obtain ⟨⟨xs, s⟩, G2⟩ := q
      rw [e1] at p
      unfold range1F at e1
      split at e1
      · rename_i j
        split at e1
        · rename_i hj
          cases e1
          cases r with
          | cons r1 r2 =>
            cases r2
            cases isV_int r1
            exact ⟨j, rfl, hj.1, hj.2, Post.okv (R := RI X.K T) p g1 walks_range⟩
        · cases e1
      · cases e1
theorem i_range2 {p : Pos} (hg : Gl X "range") (hm : X.mg "range" = none) (ha : PA X [a, b] (tL X.K X.mg T W m)) (hs : starEach [a, b] X.env = [(false, eval a X.env), (false, eval b X.env)] := by rfl) (hs2 : starEach [b] X.env = [(false, eval b X.env)] := by rfl) :
    PI X tg (.Call (.Name "range" p) [a, b] [] pos) (tI X.K X.mg T W (iterA range2F m)) :=
  pi_weak (pi_range2 hg hm ha hs hs2) fun σ H Q h => by
    refine (tG.bind (R := RA X.K) (f := fun v ds G1 => liftO (range2F v G1)) h).mono ?_
    rintro y H1 ⟨μ1, ds, vs, G1, hs, g1, r, p⟩
    cases e1 : range2F vs G1 with
    | none => rw [e1] at p; exact p.elim
    | some q =>
      obtain ⟨⟨xs, s⟩, G2⟩ := q
      rw [e1] at p
      unfold range2F at e1
      split at e1
      · rename_i i j
        split at e1
        · rename_i hj
          cases e1
          cases r with
          | cons r1 r2 =>
            cases r2 with
            | cons r2 r3 =>
              cases r3
              cases isV_int r1
              cases isV_int r2
              exact ⟨i, j, rfl, hj, Post.okv (R := RI X.K T) p g1 walks_range⟩
        · cases e1
      · cases e1

/-! ### list comprehensions -/
/-- a target of a comprehension: its own slots alone -/
def CG (K : PySem.W.Frag) (T : List (Addr × Str)) (vs : List Nat) (g : TG) (t : TM) : Prop :=
  ∀ y v σ ds H μ G ds' G', IsV K H μ y v → SL K H μ σ ds → t v ds G = some (ds', G') → ∃ σ', (∀ Q : L2.St → Hp → Prop, Q σ' H → g y σ H Q) ∧ SL K H μ σ' ds' ∧ G' = G ∧ wipe σ' vs = wipe σ vs
def CGs (K : PySem.W.Frag) (T : List (Addr × Str)) (vs : List Nat) (g : TGs) (t : TMs) : Prop :=
  ∀ ys xs σ ds H μ G ds' G', IsPs K H μ ys xs → SL K H μ σ ds → t xs ds G = some (ds', G') → ∃ σ', (∀ Q : L2.St → Hp → Prop, Q σ' H → g ys σ H Q) ∧ SL K H μ σ' ds' ∧ G' = G ∧ wipe σ' vs = wipe σ vs
theorem wipe_set (σ : L2.St) (i : Nat) (o : Option V) : ∀ vs : List Nat, i ∈ vs → wipe (σ.set i o) vs = wipe σ vs
  | [], h => absurd h (by simp)
  | v :: vs, h => by
    unfold wipe
    by_cases hi : i ∈ vs
    · rw [wipe_set σ i o vs hi]
    · have e : i = v := (List.mem_cons.mp h).resolve_right hi
      subst e
      have : ∀ ws : List Nat, i ∉ ws → wipe (σ.set i o) ws = (wipe σ ws).set i o := by
        intro ws
        induction ws with
        | nil => intro _; rfl
        | cons w ws ih =>
          intro hn
          unfold wipe
          rw [ih (fun z => hn (List.mem_cons_of_mem _ z)), List.set_comm _ _ (fun z => hn (by rw [z]; exact List.mem_cons_self))]
      rw [this vs hi, List.set_set]
theorem c_name {K : PySem.W.Frag} {vs : List Nat} {i : Nat} (hi : i ∈ vs) : CG K T vs (gName i) (nameT i) := by
  intro y v σ ds H μ G ds' G' r hs e
  cases e
  exact ⟨σ.set i (some y), fun Q q => q, hs.set i r, rfl, wipe_set σ i _ vs hi⟩
theorem c_nil {K : PySem.W.Frag} {vs : List Nat} : CGs K T vs gNil nilT := by
  intro ys xs σ ds H μ G ds' G' r hs e
  cases r with
  | nil =>
    cases e
    exact ⟨σ, fun Q q => ⟨rfl, q⟩, hs, rfl, rfl⟩
  | cons a b => cases e
theorem c_cons {K : PySem.W.Frag} {vs : List Nat} {g : TG} {gs : TGs} {t : TM} {ts : TMs} (h1 : CG K T vs g t) (h2 : CGs K T vs gs ts) : CGs K T vs (gCons g gs) (consT t ts) := by
  intro ys xs σ ds H μ G ds' G' r hs e
  cases r with
  | nil => cases e
  | @cons y x ys xs a b =>
    have e' : ((t (.d x) ds G).bind fun p => ts xs p.1 p.2) = some (ds', G') := e
    cases e1 : t (.d x) ds G with
    | none => rw [e1] at e'; cases e'
    | some p =>
      rw [e1] at e'
      obtain ⟨σ1, q1, hs1, eg1, w1⟩ := h1 y (.d x) σ ds H μ G p.1 p.2 a hs e1
      obtain ⟨σ2, q2, hs2, eg2, w2⟩ := h2 ys xs σ1 p.1 H μ p.2 ds' G' b hs1 e'
      exact ⟨σ2, fun Q q => ⟨_, _, rfl, q1 _ (q2 Q q)⟩, hs2, eg2.trans eg1, w2.trans w1⟩
theorem c_tup {K : PySem.W.Frag} {vs : List Nat} {n : Nat} {gs : TGs} {ts : TMs} (h : CGs K T vs gs ts) : CG K T vs (gTup K n gs) (tupT n ts) := by
  intro y v σ ds H μ G ds' G' r hs e
  unfold tupT at e
  split at e
  · rename_i xs
    split at e
    · rename_i hl
      have r' : IsP K H μ y (.tuple xs) := r
      cases r' with
      | tup f b =>
        obtain ⟨σ1, q1, hs1, eg1, w1⟩ := h _ xs σ ds H μ G ds' G' b hs e
        exact ⟨σ1, fun Q q => ⟨_, _, rfl, f.sqT, b.length.trans hl, q1 Q q⟩, hs1, eg1, w1⟩
      | tupK f b =>
        obtain ⟨σ1, q1, hs1, eg1, w1⟩ := h _ xs σ ds H μ G ds' G' b hs e
        exact ⟨σ1, fun Q q => ⟨_, _, rfl, sqT_of f, b.length.trans hl, q1 Q q⟩, hs1, eg1, w1⟩
    · cases e
  · cases e
def wipeD (ds : Sl) : List Nat → Sl
  | [] => ds
  | v :: vs => (wipeD ds vs).set v none
theorem SL.wipe {K : PySem.W.Frag} {H : Hp} {μ : List Addr} {σ : L2.St} {ds : Sl} (h : SL K H μ σ ds) : ∀ vs : List Nat, SL K H μ (L2.wipe σ vs) (wipeD ds vs)
  | [] => h
  | v :: vs => (h.wipe vs).forget v none
/-- a new list, for good or to be written -/
def newL (fz : Bool) (xs : List PyData) (G : Ms) : ER DV := if fz = true then .ok (.d (.list xs)) G else .ok (.mr G.length) (G ++ [.lst xs])
abbrev yesB : BM := fun _ G => .ok true G
noncomputable def lcE (fz : Bool) (vs : List Nat) (im : IM) (t : TM) (c : BM) (e : EM) : EM := fun ds G => (im ds G).bind fun p G1 => (compN t c e p.2 (wipeD ds vs) p.1 [] G1).bind fun acc G2 => newL fz acc G2
abbrev W0 : WX := fun _ _ _ _ => False
theorem wipe_get (σ : L2.St) (i : Nat) : ∀ vs : List Nat, (wipe σ vs)[i]? = if i ∈ vs then σ[i]?.map (fun _ => none) else σ[i]?
  | [] => by simp [wipe]
  | v :: vs => by
    unfold wipe
    have ih := wipe_get σ i vs
    by_cases hv : v = i
    · subst hv
      rw [if_pos List.mem_cons_self]
      rw [List.getElem?_set_self']
      rw [ih]
      split <;> cases σ[v]? <;> rfl
    · rw [List.getElem?_set_ne hv, ih]
      have e : (i ∈ v :: vs) = (i ∈ vs) := by
        rw [List.mem_cons]
        exact propext ⟨fun h => h.resolve_left (fun z => hv z.symm), .inr⟩
      simp only [e]
theorem wipe_idem (σ : L2.St) (vs : List Nat) : wipe (wipe σ vs) vs = wipe σ vs := by
  apply List.ext_getElem?
  intro i
  rw [wipe_get, wipe_get]
  split
  · cases σ[i]? <;> rfl
  · rfl
theorem back_some {n : Nat} {acc : List PyData} {G G3 : Ms} (h : back n acc G = some G3) : G = G3 ++ [.lst acc] ∧ G3.length = n := by
  unfold back at h
  split at h
  · rename_i c
    cases h
    obtain ⟨c1, c2⟩ := c
    refine ⟨?_, by simp; omega⟩
    obtain ⟨h1, h2⟩ := List.getElem?_eq_some_iff.mp c2
    have e := List.take_append_drop n G
    have ed : G.drop n = [.lst acc] := by
      rw [List.drop_eq_getElem_cons h1, h2, List.drop_eq_nil_of_le (by omega)]
    rw [ed] at e
    exact e.symm
  · cases h
@[simp] theorem back_self (acc : List PyData) (G : Ms) : back G.length acc (G ++ [.lst acc]) = some G := by
  unfold back
  rw [if_pos ⟨by simp, by simp⟩]
  simp
theorem pts_yes {X : Cx} : PTs X [] (tB X.K X.mg T W yesB) := ⟨fun pins s σ H Q I h => pts_nil.run pins s σ H Q I (by
  obtain ⟨μ, ds, G, hs, g, p⟩ := h
  exact Post.okv (R := RB) p g rfl)⟩
theorem pts_test {X : Cx} {c : Expr} (h : PT X c (tB X.K X.mg T W ba)) : PTs X [c] (tB X.K X.mg T W ba) := pts_one h
theorem GR.cut {K : PySem.W.Frag} {H : Hp} {μ : List Addr} {G : Ms} {D : Addr} {o : MO} (g : GR K T H (μ ++ [D]) (G ++ [o])) : GR K T H μ G := by
  have h := g.len
  simp at h
  have q := g.take μ.length
  rw [List.take_left, h, List.take_left] at q
  exact q
/-- a list just finished leaves the store, or is its last object -/
theorem new_done {K : PySem.W.Frag} {mg : MgT} {W : WX} {σ : L2.St} {μ : List Addr} {H H1 : Hp} {G : Ms} {D : Addr} {xs : List PyData} {fz : Bool} {Q : VK} (p : Post K mg T (RV K) W σ μ H1 Q (newL fz xs G)) (s : Step μ H1 (μ ++ [D]) H)
    (g : GR K T H (μ ++ [D]) (G ++ [.lst xs])) : Q (.ref D) H := by
  have hl := g.len
  simp at hl
  obtain ⟨vs, hD, r⟩ := g.at_ μ.length D (.lst xs) (by simp) (by rw [hl]; simp)
  have hn : D ∉ μ := fun h => by
    have nd := g.nd
    rw [List.nodup_append] at nd
    exact nd.2.2 D h D (by simp) rfl
  unfold newL at p
  split at p
  · exact p (.ref D) H μ ⟨List.prefix_refl _, s.keep, fun a b n => absurd b n⟩ (IsP.lst ⟨hD, hn⟩ (IsPs.sub (fun a h => List.mem_append_left _ h) r)) g.cut
  · refine p (.ref D) H (μ ++ [D]) s ⟨D, rfl, ?_⟩ g
    rw [← hl]
    simp
theorem d_lc {fz : Bool} {elt : Expr} {ifs : List Expr} {scope : Scope} {own : List (Str × Nat)} {g : TG} (hc : X.calm = true) (hN : X.N.Nodup) (hi : PI X tg iter (tI X.K X.mg T W im)) (ok : BlkOk X.N X.env.scope scope own)
    (hg : ∀ (s : Shared) (H : Hp) (C : Addr) (cl : List (Str × Addr)) (fp : List Addr), PG (X.blk s H scope (compEnvC scope cl C X.env) fp) tg g) (cg : CG X.K T (own.map (·.2)) g t)
    (ht : ∀ (s : Shared) (H : Hp) (C : Addr) (cl : List (Str × Addr)) (fp : List Addr), PTs (X.blk s H scope (compEnvC scope cl C X.env) fp) ifs (tB X.K X.mg T W0 ba))
    (he : ∀ (s : Shared) (H : Hp) (C : Addr) (cl : List (Str × Addr)) (fp : List Addr), PE (X.blk s H scope (compEnvC scope cl C X.env) fp) elt (tE X.K X.mg T W0 ma)) (hs : ∀ x, foldedSetIterable iter X.env x = pure x := by intro _; rfl) :
    PE X (.ListComp elt [⟨tg, iter, ifs, 0⟩] scope pos) (tE X.K X.mg T W (lcE fz (own.map (·.2)) im t ba ma)) :=
  pe_weak (pe_lc hc hN hi ok hg ht he hs) fun σ H Q h => by
    refine (tG.bind (R := RI X.K T) (f := fun p ds G1 => (compN t ba ma p.2 (wipeD ds (own.map (·.2))) p.1 [] G1).bind fun acc G2 => newL fz acc G2) h).mono ?_
    rintro J H1 ⟨μ1, ds, ⟨xs, s⟩, G1, hs1, g1, wk, p⟩ D hD
    have hsw := hs1.wipe (own.map (·.2))
    generalize own.map (·.2) = vs at *
    refine ⟨fun i m H => m = xs.length - i ∧ i ≤ xs.length ∧ ∃ acc G, Step μ1 H1 (μ1 ++ [D]) H ∧ GR X.K T H (μ1 ++ [D]) (G ++ [.lst acc]) ∧ Post X.K X.mg T (RV X.K) W σ μ1 H1 Q ((compN t ba ma s (wipeD ds vs) (xs.drop i) acc G).bind fun acc G2 => newL fz acc G2),
      ⟨xs.length, by simp, Nat.zero_le _, [], G1, .alloc hD, g1.alloc hD .nil, by simpa using p⟩, ?_⟩
    rintro i m H2 ⟨rfl, hi2, acc, G2, s2, g2, p2⟩
    by_cases hlt : i < xs.length
    · rw [List.drop_eq_getElem_cons hlt] at p2
      unfold compN at p2
      by_cases ok : s.ok (G2 ++ [.lst acc])
      · rw [if_pos ok] at p2
        refine .inr ⟨wk.go H2 _ _ i s2 g2 ok hlt, fun H' => ∃ acc G, Step μ1 H1 (μ1 ++ [D]) H' ∧ GR X.K T H' (μ1 ++ [D]) (G ++ [.lst acc]) ∧ Post X.K X.mg T (RV X.K) W σ μ1 H1 Q ((compN t ba ma s (wipeD ds vs) (xs.drop (i + 1)) acc G).bind fun acc G2 => newL fz acc G2), fun H' q => ⟨xs.length - (i + 1), by omega, rfl, hlt, q⟩, fun y H3 hy => ?_⟩
        obtain ⟨s3, g3, d, hd, r⟩ := wk.yld H2 _ _ i y H3 s2 g2 ok hlt hy
        have ed : d = xs[i] := by rw [List.getElem?_eq_getElem hlt] at hd; exact (Option.some.inj hd).symm
        subst ed
        cases et : t (.d xs[i]) (wipeD ds vs) (G2 ++ [.lst acc]) with
        | none => rw [et] at p2; exact p2.elim
        | some q =>
          obtain ⟨q1, q2⟩ := q
          rw [et] at p2
          obtain ⟨σ4, hq, hs4, eg, ew⟩ := cg y (.d xs[i]) (wipe σ vs) (wipeD ds vs) H3 (μ1 ++ [D]) _ q1 q2 r (hsw.mono (s2.trans s3)) et
          subst eg
          have g3l : G2.length = μ1.length := by
            have z := g3.len
            simp at z
            exact z.symm
          refine hq _ ⟨ew.trans (wipe_idem σ vs), ?_⟩
          simp only at p2
          refine ⟨μ1 ++ [D], q1, _, hs4, g3, ?_⟩
          have st3 := s2.trans s3
          cases ec : ba q1 (G2 ++ [.lst acc]) with
          | bad => rw [ec] at p2; exact p2.elim
          | exn x Gx => rw [ec] at p2; exact p2.elim
          | ok k G4 =>
            rw [ec] at p2
            rintro b H4 μ4 s4 rfl g4
            cases b with
            | false =>
              rw [if_neg Bool.false_ne_true]
              simp only at p2
              cases eb : back G2.length acc G4 with
              | none => rw [eb] at p2; exact p2.elim
              | some G5 =>
                rw [eb] at p2
                obtain ⟨e5, l5⟩ := back_some eb
                subst e5
                have em : μ4 = μ1 ++ [D] := by
                  refine (s4.pre.eq_of_length ?_).symm
                  rw [g4.len]
                  simp [l5, g3l]
                subst em
                exact ⟨acc, G5, st3.trans s4, g4, p2⟩
            | true =>
              rw [if_pos rfl]
              simp only at p2
              refine ⟨μ4, q1, G4, hs4.mono s4, g4, ?_⟩
              cases ee : ma q1 G4 with
              | bad => rw [ee] at p2; exact p2.elim
              | exn x Gx => rw [ee] at p2; exact p2.elim
              | ok v G5 =>
                rw [ee] at p2
                cases v with
                | fn a => exact p2.elim
                | mr n => exact p2.elim
                | scr ns => exact p2.elim
                | d y0 =>
                  simp only at p2
                  by_cases hz : acc.length < sizeLine
                  · rw [if_pos hz] at p2
                    cases eb : back G2.length acc G5 with
                    | none => rw [eb] at p2; exact p2.elim
                    | some G6 =>
                      rw [eb] at p2
                      obtain ⟨e5, l5⟩ := back_some eb
                      subst e5
                      rintro z H5 μ5 s5 r5 g5
                      have em : μ5 = μ1 ++ [D] := by
                        refine ((s4.trans s5).pre.eq_of_length ?_).symm
                        rw [g5.len]
                        simp [l5, g3l]
                      subst em
                      have l6 : G6.length = μ1.length := l5.trans g3l
                      obtain ⟨vs', hD', r'⟩ := g5.at_ μ1.length D (.lst acc) (by simp) (by rw [← l6]; simp)
                      refine ⟨vs', hD', by rw [r'.length]; exact hz, acc ++ [y0], G6, ((st3.trans s4).trans s5).trans (.write (by simp)), ?_, p2⟩
                      have gw := g5.write (n := μ1.length) (a := D) (by simp) (r'.append (.cons r5 .nil))
                      rw [← l6] at gw
                      simpa using gw
                  · rw [if_neg hz] at p2
                    exact p2.elim
      · rw [if_neg ok] at p2
        exact p2.elim
    · have e : xs.length ≤ i := by omega
      rw [List.drop_eq_nil_of_le e] at p2
      unfold compN at p2
      by_cases ok : s.ok (G2 ++ [.lst acc])
      · rw [if_pos ok] at p2
        exact .inl ⟨wk.stop H2 _ _ i s2 g2 ok e, new_done p2 s2 g2⟩
      · rw [if_neg ok] at p2
        exact p2.elim
end
end DL
/-! DLe: defs and their calls, exceptions. -/
namespace DL
open PySem PySem.Spec PyProof.Rows L2

abbrev FM := List DV → Ms → ER DV
/-- what a def promises: it does what f tells -/
def spD (K : PySem.W.Frag) (mg : MgT) (T : List (Addr × Str)) (n : Nat) (f : FM) : Sp := fun ys H Q E => ∃ μ vs G, IsVs K H μ ys vs ∧ GR K T H μ G ∧ vs.length = n ∧ Post K mg T (RV K) (fun c d _ H' => E c d H') [] μ H Q (f vs G)
/-- what was made within goes; a list handed back is written no more -/
def cutM (n : Nat) (v : DV) (G : Ms) : ER DV :=
  match v with
  | .d x => .ok (.d x) (G.take n)
  | .fn a => .ok (.fn a) (G.take n)
  | .scr _ => .bad
  | .mr k => if k < n then .ok (.mr k) (G.take n) else match G[k]? with
    | some (.lst xs) => .ok (.d (.list xs)) (G.take n)
    | none => .bad
/-- .. a list handed back that was made first of all stays to be written -/
def keepM (n : Nat) (v : DV) (G : Ms) : ER DV :=
  match v with
  | .mr k => if k = n ∧ k < G.length then .ok (.mr k) (G.take (n + 1)) else .bad
  | _ => .bad
def exitM (cut : Nat → DV → Ms → ER DV) (n : Nat) : SR → ER DV
  | .rt v G => cut n v G
  | .nx _ G => cut n (.d .none) G
  | .exn x _ G => .exn x (G.take n)
  | _ => .bad
def defW (cut : Nat → DV → Ms → ER DV) (ns : Nat) (b : SM) : FM := fun vs G => exitM cut G.length (b (vs.map some ++ List.replicate (ns - vs.length) none) G)
abbrev defM (ns : Nat) (b : SM) : FM := defW cutM ns b
structure CutOk (cut : Nat → DV → Ms → ER DV) : Prop where
  ok : ∀ n v G w G', cut n v G = .ok w G' → ∀ (K : PySem.W.Frag) (T : List (Addr × Str)) (H0 H : Hp) (μ0 μ : List Addr) (y : V), μ0.length = n → Step μ0 H0 μ H → IsV K H μ y v → GR K T H μ G → ∃ μ', Step μ0 H0 μ' H ∧ IsV K H μ' y w ∧ GR K T H μ' G'
  ne : ∀ n v G x G', cut n v G ≠ .exn x G'
theorem Step.cut {μ0 μ : List Addr} {H0 H : Hp} (s : Step μ0 H0 μ H) : Step μ0 H0 (μ.take μ0.length) H ∧ μ.take μ0.length = μ0 := by
  obtain ⟨r, e⟩ := s.pre
  have e2 : μ.take μ0.length = μ0 := by rw [← e, List.take_left]
  rw [e2]
  exact ⟨⟨List.prefix_refl _, s.keep, fun a b n => absurd b n⟩, rfl⟩
theorem cutM_ok : CutOk cutM := by
  refine ⟨fun n v G w G' e K T H0 H μ0 μ y hn s r g => ?_, fun n v G x G' e => ?_⟩
  · obtain ⟨s', em⟩ := s.cut
    have g' := g.take n
    rw [← hn, em] at g'
    have sub : ∀ a, a ∈ μ0 → a ∈ μ := fun a h => s.pre.subset h
    cases v with
    | d x =>
      cases e
      refine ⟨μ0, by rw [em] at s'; exact s', IsP.sub sub r, ?_⟩
      rw [← hn]; exact g'
    | fn a =>
      cases e
      refine ⟨μ0, by rw [em] at s'; exact s', r, ?_⟩
      rw [← hn]; exact g'
    | scr ns => cases e
    | mr k =>
      unfold cutM at e
      simp only at e
      split at e
      · rename_i hk
        cases e
        obtain ⟨a, e1, e2⟩ := r
        refine ⟨μ0, by rw [em] at s'; exact s', ⟨a, e1, ?_⟩, ?_⟩
        · rw [← em, List.getElem?_take, if_pos (by omega)]; exact e2
        · rw [← hn]; exact g'
      · rename_i hk
        split at e
        · rename_i xs hG
          cases e
          obtain ⟨a, e1, e2⟩ := r
          obtain ⟨vs, h1, h2⟩ := g.at_ k a _ e2 hG
          refine ⟨μ0, by rw [em] at s'; exact s', ?_, ?_⟩
          · subst e1
            refine IsP.lst ⟨h1, fun hm => ?_⟩ (IsPs.sub sub h2)
            obtain ⟨j, hj, ej⟩ := List.getElem_of_mem hm
            have e3 : μ[j]? = some a := pre_get s.pre (by rw [List.getElem?_eq_getElem hj, ej])
            obtain ⟨h3, e3⟩ := List.getElem?_eq_some_iff.mp e3
            obtain ⟨h4, e4⟩ := List.getElem?_eq_some_iff.mp e2
            have : j = k := (List.getElem_inj g.nd).mp (e3.trans e4.symm)
            omega
          · rw [← hn]; exact g'
        · cases e
  · cases v with
    | d x => cases e
    | fn a => cases e
    | scr ns => cases e
    | mr k =>
      unfold cutM at e
      simp only at e
      split at e
      · cases e
      · split at e <;> cases e
theorem keepM_ok : CutOk keepM := by
  refine ⟨fun n v G w G' e K T H0 H μ0 μ y hn s r g => ?_, fun n v G x G' e => ?_⟩
  · cases v with
    | d x => cases e
    | fn a => cases e
    | scr ns => cases e
    | mr k =>
      unfold keepM at e
      simp only at e
      split at e
      · rename_i hk
        cases e
        obtain ⟨rfl, hk⟩ := hk
        obtain ⟨a, e1, e2⟩ := r
        obtain ⟨q, eq⟩ := s.pre
        refine ⟨μ.take (k + 1), ⟨?_, s.keep, fun b h n => s.new b (List.mem_of_mem_take h) n⟩, ⟨a, e1, ?_⟩, g.take (k + 1)⟩
        · refine ⟨q.take 1, ?_⟩
          rw [← eq, ← hn, List.take_append]
          congr 1
          · rw [List.take_of_length_le (by omega)]
          · congr 1
            omega
        · rw [List.getElem?_take, if_pos (by omega)]; exact e2
      · cases e
  · cases v with
    | d x => cases e
    | fn a => cases e
    | scr ns => cases e
    | mr k =>
      unfold keepM at e
      simp only at e
      split at e <;> cases e
theorem SL.start {K : PySem.W.Frag} {H : Hp} {μ : List Addr} {N : List Str} {ys : List V} {vs : List DV} (r : IsVs K H μ ys vs) : SL K H μ (L2.start N ys) (vs.map some ++ List.replicate (N.length - vs.length) none) := by
  have hl := r.length
  refine ⟨by unfold L2.start; simp [hl], fun i v e => ?_⟩
  have key : ∀ {ys : List V} {vs : List DV} {i : Nat} {v : DV}, IsVs K H μ ys vs → vs[i]? = some v → ∃ y, ys[i]? = some y ∧ IsV K H μ y v := by
    intro ys vs i v r
    induction r generalizing i with
    | nil => intro e; simp at e
    | cons a b ih =>
      intro e
      cases i with
      | zero => simp at e; subst e; exact ⟨_, rfl, a⟩
      | succ i =>
        obtain ⟨y, e1, e2⟩ := ih (i := i) (by simpa using e)
        exact ⟨y, by simpa using e1, e2⟩
  by_cases hi : i < vs.length
  · rw [List.getElem?_append_left (by simpa using hi), List.getElem?_map] at e
    cases ev : vs[i]? with
    | none => rw [ev] at e; cases e
    | some u =>
      rw [ev] at e
      cases e
      obtain ⟨y, e1, e2⟩ := key r ev
      refine ⟨y, ?_, e2⟩
      unfold L2.start
      rw [List.getElem?_append_left (by simp; omega), List.getElem?_map, e1]
      rfl
  · rw [List.getElem?_append_right (by simpa using hi), List.getElem?_replicate] at e
    split at e <;> cases e

section
variable {P : Program} {w : World} {K : PySem.W.Frag} {mg : MgT} {base : Heap} {T : List (Addr × Str)}
/-- a def of the text -/
theorem fn_def {cut : Nat → DV → Ms → ER DV} {x qual : Str} {st : Stmt} {f : Addr} {fd : FuncData} {N ps : List Str} {k : Nat} {m : SM} (hcut : CutOk cut) (F : Fun K x qual st f fd) (S : FnScope N ps (defScope st))
    (hbody : ∀ (cdv : Value) (A : Around) (outer : List Env) (s : Shared) (H : Hp) (E : XK) (W : WX), Room k (A.deeper (envOfC qual (defScope st) s.heap.objs.size f cdv)) → Takes (cxOf (L2.CX P w) P w K mg base N qual (defScope st) f cdv A outer s H E) W →
      PassesOwn (model P w) (A.deeper (envOfC qual (defScope st) s.heap.objs.size f cdv)) (envOfC qual (defScope st) s.heap.objs.size f cdv) (cxOf (L2.CX P w) P w K mg base N qual (defScope st) f cdv A outer s H E).xe →
      PSs (cxOf (L2.CX P w) P w K mg base N qual (defScope st) f cdv A outer s H E) (defBody st) (tS K mg T W m)) :
    FnOk P w K mg base (L2.CX P w) (k + 1) f fd ps (spD K mg T ps.length (defW cut N.length m)) := by
  refine F.okX S (fun vs H Q E h => ?_) fun cdv A outer s H vs Q E hr h => ?_
  · obtain ⟨μ, us, G, r, g, hl, p⟩ := h
    exact r.length.trans hl
  · obtain ⟨μ, us, G, r, g, hl, p⟩ := h
    refine ⟨_, hbody cdv A outer s H E (fun cls d _ H => E cls d H) hr (takes_of rfl rfl rfl rfl) (passes_of rfl), μ, _, G, SL.start r, g, ?_⟩
    have p' : Post K mg T (RV K) (fun c d _ H' => E c d H') [] μ H Q (exitM cut G.length (m (us.map some ++ List.replicate (N.length - us.length) none) G)) := p
    have hm : μ.length = G.length := g.len
    cases e : m (us.map some ++ List.replicate (N.length - us.length) none) G with
    | nx ds2 G2 =>
      rw [e] at p'
      have p2 : Post K mg T (RV K) (fun c d _ H' => E c d H') [] μ H Q (cut G.length (.d .none) G2) := p'
      intro σ' H' μ' s' hs' g'
      cases ec : cut G.length (.d .none) G2 with
      | bad => rw [ec] at p2; exact p2.elim
      | exn x G3 => exact absurd ec (hcut.ne _ _ _ _ _)
      | ok v G3 =>
        rw [ec] at p2
        obtain ⟨μ2, s2, r2, g2⟩ := hcut.ok _ _ _ _ _ ec K T H H' μ μ' .non hm s' .none g'
        exact p2 .non H' μ2 s2 r2 g2
    | rt v G2 =>
      rw [e] at p'
      have p2 : Post K mg T (RV K) (fun c d _ H' => E c d H') [] μ H Q (cut G.length v G2) := p'
      intro y H' μ' s' hs' g'
      cases ec : cut G.length v G2 with
      | bad => rw [ec] at p2; exact p2.elim
      | exn x G3 => exact absurd ec (hcut.ne _ _ _ _ _)
      | ok v G3 =>
        rw [ec] at p2
        obtain ⟨μ2, s2, r2, g2⟩ := hcut.ok _ _ _ _ _ ec K T H H' μ μ' y hm s' hs' g'
        exact p2 y H' μ2 s2 r2 g2
    | exn x ds2 G2 =>
      rw [e] at p'
      intro c d σ' H' μ' s' xr hs' g'
      have g2 := g'.take G.length
      obtain ⟨s2, em⟩ := s'.cut
      rw [← hm, em] at g2
      rw [em] at s2
      rw [hm] at g2
      refine p' c d H' μ s2 ?_ g2
      obtain ⟨C, e1, e2, h⟩ := xr
      refine ⟨C, e1, e2, h.imp id ?_⟩
      rintro ⟨dx, fs, e3, e4, n, e5, r⟩
      exact ⟨dx, fs, e3, e4, fun z => n (s'.pre.subset z), e5, IsPs.sub (fun a h => s'.pre.subset h) r⟩
    | bk ds2 G2 => rw [e] at p'; exact p'.elim
    | ct ds2 G2 => rw [e] at p'; exact p'.elim
    | bad => rw [e] at p'; exact p'.elim
/-- the same promise in other words -/
theorem fn_eq {k : Nat} {f : Addr} {fd : FuncData} {ps : List Str} {n : Nat} {g h : FM} (F : FnOk P w K mg base (L2.CX P w) k f fd ps (spD K mg T n g)) (e : ∀ vs G, h vs G = .bad ∨ g vs G = h vs G) : FnOk P w K mg base (L2.CX P w) k f fd ps (spD K mg T n h) :=
  F.imp fun vs H Q E ⟨μ, us, G, r, gr, hl, p⟩ => by
    refine ⟨μ, us, G, r, gr, hl, ?_⟩
    rcases e us G with z | z
    · rw [z] at p; exact p.elim
    · rw [z]; exact p
end

section
variable {X : Cx} {T : List (Addr × Str)} {W : WX} {pos p : Pos} {e a b c : Expr} {es : List Expr} {ma mb mc : EM} {m : AM}
abbrev LenA (n : Nat) (m : AM) : Prop := ∀ ds G vs G', m ds G = .ok vs G' → vs.length = n
theorem lenA_nil : LenA 0 nilA := fun ds G vs G' h => by cases h; rfl
theorem lenA_cons {n : Nat} {ma : EM} {m : AM} (h : LenA n m) : LenA (n + 1) (consA ma m) := fun ds G vs G' e => by
  unfold consA at e
  cases e1 : ma ds G with
  | bad => rw [e1] at e; cases e
  | exn x G1 => rw [e1] at e; cases e
  | ok v G1 =>
    rw [e1] at e
    simp only [ER.bind_ok] at e
    cases e2 : m ds G1 with
    | bad => rw [e2] at e; cases e
    | exn x G2 => rw [e2] at e; cases e
    | ok us G2 =>
      rw [e2] at e
      cases e
      rw [List.length_cons, h _ _ _ _ e2]
/-- f(..) -/
def fnE (f : FM) (m : AM) : EM := fun ds G => (m ds G).bind fun vs G1 => f vs G1
theorem d_call {f : FM} {k n : Nat} {fa : Addr} {fd : FuncData} {ps : List Str} {x : Str} (F : FnOk X.prog X.w X.K X.mg X.base (L2.CX X.prog X.w) k fa fd ps (spD X.K X.mg T n f)) (tk : Takes X W) (hr : Room k X.A) (hg : Gl X x) (hm : X.mg x = some (.ref fa)) (hk : PySem.W.keepIn X.K (.ref fa) = true)
    (hb : Binds X.K fd ps []) (ha : PA X (e :: es) (tL X.K X.mg T W m)) (hn : n = ps.length) (hln : LenA n m) (hdb : (x == ("__debug__" : Str)) = false := by decide)
    (he : starEach (e :: es) X.env = (false, eval e X.env) :: starEach es X.env := by rfl) (hpl : (backTo pos (starEach es X.env)).any (·.1) = false := by rfl) : PE X (.Call (.Name x p) (e :: es) [] pos) (tE X.K X.mg T W (fnE f m)) :=
  pe_weak (pe_callSD (E := fun σ => WE W σ) (dvs := []) (ds := []) F hr hg hm hk hb .nil (fun σ => passAt tk σ) ha hdb he hpl) fun σ H Q h => by
    obtain ⟨μ, ds, G, hs, g, p⟩ := h
    refine ⟨μ, ds, G, hs, g, ?_⟩
    have p' : Post X.K X.mg T (RV X.K) W σ μ H Q ((m ds G).bind fun vs G1 => f vs G1) := p
    cases em : m ds G with
    | bad => rw [em] at p'; exact p'.elim
    | exn x G1 => rw [em] at p'; exact p'
    | ok vs G1 =>
      rw [em] at p'
      rintro ys H1 μ1 s1 r1 g1
      rw [List.append_nil]
      refine ⟨μ1, vs, G1, r1, g1, hln _ _ _ _ em, ?_⟩
      have p1 := Post.step p' s1
      simp only [ER.bind_ok] at p1
      cases ef : f vs G1 with
      | bad => rw [ef] at p1; exact p1.elim
      | ok v G2 => rw [ef] at p1; exact p1
      | exn x G2 => rw [ef] at p1; exact p1
end
end DL
/-! DLf: operators and builtins by values. -/
namespace DL
open PySem PySem.Spec PyProof.Rows L2

/-! ### data reads as the library reads it -/
section
variable {X : Cx} {pins : List (Addr × Obj)} {σ : L2.St} {H : Hp} {s : Shared} {μ : List Addr}
mutual
theorem IsP.reads (I : Inv X pins σ H s) : ∀ {d : PyData} {v : V} {u : Value}, IsP X.K H μ v d → RelV v u → d.plain = true → ∃ as, Reads s.heap u d as
  | .none, _, _, .none, r, _ => by cases r; exact ⟨_, .none⟩
  | .bool b, _, _, .bool _, r, _ => by cases r; exact ⟨_, .bool b⟩
  | .int i, _, _, .int _, r, _ => by obtain ⟨t, rfl⟩ := r; exact ⟨_, .int i t⟩
  | .str x, _, _, .str _, r, _ => by obtain ⟨t, rfl⟩ := r; exact ⟨_, .str x t⟩
  | .tuple ds, _, _, .tup f h, r, hp => by
    cases r
    obtain ⟨its, rv, ⟨o, ho, hc, n, hd⟩, _⟩ := I.tuple f.sqT
    obtain ⟨as, q⟩ := IsPs.reads I h rv (by simpa [PyData.plain] using hp)
    exact ⟨_, .tuple ho hc hd (by simpa using q)⟩
  | .tuple ds, _, _, .tupK f h, r, hp => by
    cases r
    obtain ⟨its, rv, ⟨o, ho, hc, n, hd⟩, _⟩ := I.tuple (sqT_of f)
    obtain ⟨as, q⟩ := IsPs.reads I h rv (by simpa [PyData.plain] using hp)
    exact ⟨_, .tuple ho hc hd (by simpa using q)⟩
  | .list ds, _, _, .lst f h, r, hp => by
    cases r
    obtain ⟨its, rv, ⟨o, n, ho, hc, hx, hd⟩, _⟩ := I.list f.sqL
    obtain ⟨as, q⟩ := IsPs.reads I h rv (by simpa [PyData.plain] using hp)
    exact ⟨_, .list ho hc hd (by simpa using q)⟩
  | .dict ds, _, _, .dct f h, r, hp => by simp [PyData.plain] at hp
theorem IsPs.reads (I : Inv X pins σ H s) : ∀ {ds : List PyData} {vs : List V} {us : List Value}, IsPs X.K H μ vs ds → Vals vs us → PyData.plainAll ds = true → ∃ as, ReadsAll s.heap us ds as
  | [], _, _, .nil, r, _ => by cases r; exact ⟨_, .nil⟩
  | d :: ds, _, _, .cons h t, r, hp => by
    cases r with
    | cons r1 r2 =>
      simp only [PyData.plainAll, Bool.and_eq_true] at hp
      obtain ⟨as, q1⟩ := IsP.reads I h r1 hp.1
      obtain ⟨bs, q2⟩ := IsPs.reads I t r2 hp.2
      exact ⟨_, .cons q1 q2⟩
end
end

/-! ### lists and sequences by value -/
def lstOf (G : Ms) : DV → Option (List PyData)
  | .d (.list xs) => some xs
  | .mr n => match G[n]? with | some (.lst xs) => some xs | none => none
  | _ => none
def seqOf (G : Ms) : DV → Option (List PyData)
  | .d (.tuple xs) => some xs
  | v => lstOf G v
@[simp] theorem lstOf_list (G : Ms) (xs : List PyData) : lstOf G (.d (.list xs)) = some xs := rfl
@[simp] theorem seqOf_list (G : Ms) (xs : List PyData) : seqOf G (.d (.list xs)) = some xs := rfl
@[simp] theorem seqOf_tuple (G : Ms) (xs : List PyData) : seqOf G (.d (.tuple xs)) = some xs := rfl
section
variable {K : PySem.W.Frag} {T : List (Addr × Str)} {H : Hp} {μ : List Addr} {G : Ms} {y : V} {v : DV} {xs : List PyData}
theorem lst_at (r : IsV K H μ y v) (g : GR K T H μ G) (e : lstOf G v = some xs) : ∃ a vs, y = .ref a ∧ H a = some (.lst vs) ∧ IsPs K H μ vs xs := by
  cases v with
  | d x =>
    have r' : IsP K H μ y x := r
    cases r' <;> cases e
    rename_i a vs f h
    exact ⟨a, vs, rfl, f.1, h⟩
  | fn a => cases e
  | scr ns => cases e
  | mr n =>
    obtain ⟨a, rfl, hm⟩ := r
    have e' : (match G[n]? with | some (.lst xs) => some xs | none => none) = some xs := e
    cases hG : G[n]? with
    | none => rw [hG] at e'; cases e'
    | some o =>
      cases o with
      | lst ws =>
        rw [hG] at e'
        cases e'
        obtain ⟨vs, h1, h2⟩ := g.at_ n a _ hm hG
        exact ⟨a, vs, rfl, h1, h2⟩
theorem tup_at {xs : List PyData} (r : IsV K H μ y (.d (.tuple xs))) : ∃ a vs, y = .ref a ∧ SqT K H a vs ∧ IsPs K H μ vs xs := by
  have r' : IsP K H μ y (.tuple xs) := r
  cases r' with
  | tup f h => exact ⟨_, _, rfl, f.sqT, h⟩
  | tupK f h => exact ⟨_, _, rfl, sqT_of f, h⟩
theorem seq_at (r : IsV K H μ y v) (g : GR K T H μ G) (e : seqOf G v = some xs) : ∃ a vs, y = .ref a ∧ (SqL K H a vs ∨ SqT K H a vs) ∧ IsPs K H μ vs xs := by
  by_cases h : ∃ zs, v = .d (.tuple zs)
  · obtain ⟨zs, rfl⟩ := h
    cases e
    obtain ⟨a, vs, e1, e2, e3⟩ := tup_at r
    exact ⟨a, vs, e1, .inr e2, e3⟩
  · have e' : lstOf G v = some xs := by
      rw [← e]
      unfold seqOf
      split
      · exact absurd ⟨_, rfl⟩ h
      · rfl
    obtain ⟨a, vs, e1, e2, e3⟩ := lst_at r g e'
    exact ⟨a, vs, e1, .inl (.of e2), e3⟩
/-- a new list -/
def newO (fz : Bool) (xs : List PyData) (G : Ms) : Option (DV × Ms) := if fz = true then some (.d (.list xs), G) else some (.mr G.length, G ++ [.lst xs])
@[simp] theorem newO_true (xs : List PyData) (G : Ms) : newO true xs G = some (.d (.list xs), G) := rfl
@[simp] theorem newO_false (xs : List PyData) (G : Ms) : newO false xs G = some (.mr G.length, G ++ [.lst xs]) := rfl
theorem out_new {fz : Bool} {w : DV} {G' : Ms} {Q : VK} {p : Addr} {vs : List V} (o : Out K T μ H w G' Q) (e : newO fz xs G = some (w, G')) (g : GR K T H μ G) (r : IsPs K H μ vs xs) (hp : H p = none) : Q (.ref p) (upd H p (.lst vs)) := by
  cases fz with
  | true =>
    cases e
    have s : Step μ H μ (upd H p (.lst vs)) := .fresh hp
    exact o _ _ μ s (IsP.lst ⟨upd_same, g.notin hp⟩ (IsPs.mono s r)) (g.fresh hp)
  | false =>
    cases e
    refine o _ _ (μ ++ [p]) (.alloc hp) ⟨p, rfl, ?_⟩ (g.alloc hp r)
    rw [← g.len]
    simp
theorem out_tup {Q : VK} {p : Addr} {vs : List V} (o : Out K T μ H (.d (.tuple xs)) G Q) (g : GR K T H μ G) (r : IsPs K H μ vs xs) (hp : H p = none) : Q (.ref p) (upd H p (.tup vs)) := by
  have s : Step μ H μ (upd H p (.tup vs)) := .fresh hp
  exact o _ _ μ s (IsP.tup ⟨upd_same, g.notin hp⟩ (IsPs.mono s r)) (g.fresh hp)
theorem isV_str {x : Str} (r : IsV K H μ y (.d (.str x))) : y = .str x := by
  have r' : IsP K H μ y (.str x) := r
  cases r'
  rfl
theorem isV_bool {b : Bool} (r : IsV K H μ y (.d (.bool b))) : y = .bl b := by
  have r' : IsP K H μ y (.bool b) := r
  cases r'
  rfl
theorem isV_none (r : IsV K H μ y (.d .none)) : y = .non := by
  have r' : IsP K H μ y .none := r
  cases r'
  rfl
end

/-! ### + - * // % ** on ints; + of texts, tuples, lists -/
def addF (fz : Bool) : OpF := fun v u G => match v, u with
  | .d (.int i), .d (.int j) => some (.d (.int (i + j)), G)
  | .d (.str x), .d (.str y) => if x.length + y.length ≤ sizeLine then some (.d (.str (x ++ y)), G) else none
  | .d (.tuple xs), .d (.tuple ys) => if xs.length + ys.length ≤ sizeLine then some (.d (.tuple (xs ++ ys)), G) else none
  | v, u => match lstOf G v, lstOf G u with
    | some xs, some ys => if xs.length + ys.length ≤ sizeLine then newO fz (xs ++ ys) G else none
    | _, _ => none
section open Classical
noncomputable def intF (C : Int → Int → Prop) (f : Int → Int → Int) : OpF := fun v u G => match v, u with
  | .d (.int i), .d (.int j) => if C i j then some (.d (.int (f i j)), G) else none
  | _, _ => none
end
def int0F (f : Int → Int → Int) : OpF := fun v u G => match v, u with
  | .d (.int i), .d (.int j) => some (.d (.int (f i j)), G)
  | _, _ => none
def cmpF (f : Int → Int → Bool) : OpF := fun v u G => match v, u with
  | .d (.int i), .d (.int j) => some (.d (.bool (f i j)), G)
  | _, _ => none
section
variable {X : Cx} {T : List (Addr × Str)}
theorem o_int {F : Value → Value → Sem Value} {C : Int → Int → Prop} {f : Int → Int → Int} (h : OpR X F (rI C fun i j => .int (f i j))) : OpR X F (rD X.K T (intF C f)) := by
  rintro pins s σ H x y v u Q I rx ry ⟨μ, v', u', G, w, G', r1, r2, g, e, o⟩
  unfold intF at e
  split at e
  · rename_i i j
    split at e
    · rename_i c
      cases e
      cases isV_int r1
      cases isV_int r2
      exact h pins s σ H _ _ v u Q I rx ry ⟨i, j, rfl, rfl, c, o.here g (.int _)⟩
    · cases e
  · cases e
theorem o_cmp {F : Value → Value → Sem Value} {f : Int → Int → Bool} (h : OpR X F (rI0 fun i j => .bl (f i j))) : OpR X F (rD X.K T (cmpF f)) := by
  rintro pins s σ H x y v u Q I rx ry ⟨μ, v', u', G, w, G', r1, r2, g, e, o⟩
  unfold cmpF at e
  split at e
  · rename_i i j
    cases e
    cases isV_int r1
    cases isV_int r2
    exact h pins s σ H _ _ v u Q I rx ry ⟨i, j, rfl, rfl, o.here g (.bool _)⟩
  · cases e
theorem o_int0 {F : Value → Value → Sem Value} {f : Int → Int → Int} (h : OpR X F (rI0 fun i j => .int (f i j))) : OpR X F (rD X.K T (int0F f)) := by
  rintro pins s σ H x y v u Q I rx ry ⟨μ, v', u', G, w, G', r1, r2, g, e, o⟩
  unfold int0F at e
  split at e
  · rename_i i j
    cases e
    cases isV_int r1
    cases isV_int r2
    exact h pins s σ H _ _ v u Q I rx ry ⟨i, j, rfl, rfl, o.here g (.int _)⟩
  · cases e
theorem o_add {fz : Bool} : OpR X (binaryOp .Add) (rD X.K T (addF fz)) := by
  rintro pins s σ H x y v u Q I rx ry ⟨μ, v', u', G, w, G', r1, r2, g, e, o⟩
  unfold addF at e
  split at e
  · rename_i i j
    cases e
    cases isV_int r1
    cases isV_int r2
    exact op_add pins s σ H _ _ v u Q I rx ry ⟨i, j, rfl, rfl, o.here g (.int _)⟩
  · rename_i i j
    split at e
    · rename_i hz
      cases e
      cases isV_str r1
      cases isV_str r2
      exact op_add_str pins s σ H _ _ v u Q I rx ry ⟨i, j, rfl, rfl, hz, o.here g (.str _)⟩
    · cases e
  · rename_i xs ys
    split at e
    · rename_i hz
      cases e
      obtain ⟨a, vs, rfl, q1, p1⟩ := tup_at r1
      obtain ⟨b, ws, rfl, q2, p2⟩ := tup_at r2
      refine op_catA pins s σ H _ _ v u Q I rx ry ⟨a, b, vs, ws, rfl, rfl, q1, q2, by rw [p1.length, p2.length]; exact hz, fun ez => ?_, fun ez ey => ?_, fun ez ey p hp => ?_⟩
      · subst ez
        cases p1
        exact o.here g r2
      · subst ey
        cases p2
        rw [List.append_nil] at o
        exact o.here g r1
      · exact out_tup o g (p1.append p2) hp
    · cases e
  · split at e
    · rename_i xs ys e1 e2
      split at e
      · rename_i hz
        obtain ⟨a, vs, rfl, q1, p1⟩ := lst_at r1 g e1
        obtain ⟨b, ws, rfl, q2, p2⟩ := lst_at r2 g e2
        exact op_cat pins s σ H _ _ v u Q I rx ry ⟨a, b, vs, ws, rfl, rfl, q1, q2, by rw [p1.length, p2.length]; exact hz, fun p hp => out_new o e g (p1.append p2) hp⟩
      · cases e
    · cases e
abbrev subF : OpF := int0F fun i j => i - j
noncomputable abbrev mulF : OpF := intF CMulW fun i j => i * j
def CDivZ (i j : Int) : Prop := j ≠ 0 ∧ j.natAbs.log2 < 9000
noncomputable abbrev fdivF : OpF := intF CDivZ fun i j => i.fdiv j
noncomputable abbrev modF : OpF := intF (fun _ j => j ≠ 0) fun i j => i.fmod j
noncomputable abbrev powF : OpF := intF CPow fun i j => i ^ j.toNat
abbrev xorF : OpF := int0F fun i j => Builtin.bitXor i j
theorem op_fdivZ : OpR X (binaryOp .FloorDiv) (rI CDivZ fun i j => .int (i.fdiv j)) := opI fun i j _ _ _ _ _ hc q => floordiv_int hc.1 q (.inl (PyProof.noPylong_of_log2 hc.2))
theorem iop_fdivZ : OpR X (inplaceOp .FloorDiv) (rI CDivZ fun i j => .int (i.fdiv j)) := opI fun i j _ _ _ _ _ hc q => ifloordiv_int hc.1 q (.inl (PyProof.noPylong_of_log2 hc.2))
theorem iop_modZ : OpR X (inplaceOp .Mod) (rI (fun _ j => j ≠ 0) fun i j => .int (i.fmod j)) := opI fun i j _ _ _ _ _ hc q => imod_int hc q
theorem o_sub : OpR X (binaryOp .Sub) (rD X.K T subF) := o_int0 op_sub
theorem o_mul : OpR X (binaryOp .Mult) (rD X.K T mulF) := o_int op_mulW
theorem o_fdiv : OpR X (binaryOp .FloorDiv) (rD X.K T fdivF) := o_int op_fdivZ
theorem o_mod : OpR X (binaryOp .Mod) (rD X.K T modF) := o_int op_modN
theorem o_pow : OpR X (binaryOp .Pow) (rD X.K T powF) := o_int op_pow
theorem o_xor : OpR X (binaryOp .BitXor) (rD X.K T xorF) := o_int0 op_xor
abbrev iaddF : OpF := int0F fun i j => i + j
theorem io_add : OpR X (inplaceOp .Add) (rD X.K T iaddF) := o_int0 iop_add
theorem io_sub : OpR X (inplaceOp .Sub) (rD X.K T subF) := o_int0 iop_sub
theorem io_fdiv : OpR X (inplaceOp .FloorDiv) (rD X.K T fdivF) := o_int iop_fdivZ
theorem io_mod : OpR X (inplaceOp .Mod) (rD X.K T modF) := o_int iop_modZ
theorem io_xor : OpR X (inplaceOp .BitXor) (rD X.K T xorF) := o_int0 iop_xor
abbrev ltF : OpF := cmpF fun i j => decide (i < j)
abbrev leF : OpF := cmpF fun i j => decide (i ≤ j)
abbrev gtF : OpF := cmpF fun i j => decide (j < i)
abbrev geF : OpF := cmpF fun i j => decide (j ≤ i)
theorem o_lt : OpR X (compareOp .Lt) (rD X.K T ltF) := o_cmp op_lt
theorem o_le : OpR X (compareOp .LtE) (rD X.K T leF) := o_cmp op_le
theorem o_gt : OpR X (compareOp .Gt) (rD X.K T gtF) := o_cmp op_gt
theorem o_ge : OpR X (compareOp .GtE) (rD X.K T geF) := o_cmp op_ge
/-! ### == and != of data, is None, in -/
/-- a value as data: a mutable list by what it holds -/
def datOf (G : Ms) : DV → Option PyData
  | .d x => some x
  | .mr n => match G[n]? with | some (.lst xs) => some (.list xs) | none => none
  | _ => none
@[simp] theorem datOf_d (G : Ms) (x : PyData) : datOf G (.d x) = some x := rfl
theorem dat_reads {pins : List (Addr × Obj)} {σ : L2.St} {H : Hp} {s : Shared} {μ : List Addr} {G : Ms} {y : V} {v : DV} {x : PyData} {u : Value} (I : Inv X pins σ H s) (r : IsV X.K H μ y v) (g : GR X.K T H μ G) (e : datOf G v = some x) (ru : RelV y u) (hp : x.plain = true) : ∃ as, Reads s.heap u x as := by
  cases v with
  | d z =>
    cases e
    exact IsP.reads I r ru hp
  | fn a => cases e
  | scr ns => cases e
  | mr n =>
    have e' : (match G[n]? with | some (.lst xs) => some (PyData.list xs) | none => none) = some x := e
    obtain ⟨a, rfl, hm⟩ := r
    cases hG : G[n]? with
    | none => rw [hG] at e'; cases e'
    | some o =>
      cases o with
      | lst ws =>
        rw [hG] at e'
        cases e'
        obtain ⟨vs, h1, h2⟩ := g.at_ n a _ hm hG
        cases ru
        obtain ⟨its, rv, ⟨o, n', ho, hc, hx, hd⟩, _⟩ := I.list (xs := vs) (.of h1)
        obtain ⟨as, q⟩ := IsPs.reads I h2 rv (by simpa [PyData.plain] using hp)
        exact ⟨_, .list ho hc hd (by simpa using q)⟩
def eqF (neg : Bool) : OpF := fun v u G => match datOf G v, datOf G u with
  | some x, some y => if x.plain = true ∧ y.plain = true ∧ min x.depth y.depth < 200 then some (.d (.bool (if neg = true then !PyData.eqv x y else PyData.eqv x y)), G) else none
  | _, _ => none
theorem o_eq (hu : X.A.units + 200 < cLine) : OpR X (compareOp .Eq) (rD X.K T (eqF false)) := by
  rintro pins s σ H x y v u Q I rx ry ⟨μ, v', u', G, w, G', r1, r2, g, e, o⟩
  unfold eqF at e
  split at e
  · rename_i a b e1 e2
    split at e
    · rename_i c
      cases e
      obtain ⟨as, q1⟩ := dat_reads I r1 g e1 rx c.1
      obtain ⟨bs, q2⟩ := dat_reads I r2 g e2 ry c.2.1
      refine SeqAt.eq_plain q1 q2 c.1 c.2.1 (by omega) ⟨.bl _, H, I, rfl, o.here g (.bool _)⟩
    · cases e
  · cases e
theorem o_ne (hu : X.A.units + 200 < cLine) : OpR X (compareOp .NotEq) (rD X.K T (eqF true)) := by
  rintro pins s σ H x y v u Q I rx ry ⟨μ, v', u', G, w, G', r1, r2, g, e, o⟩
  unfold eqF at e
  split at e
  · rename_i a b e1 e2
    split at e
    · rename_i c
      cases e
      obtain ⟨as, q1⟩ := dat_reads I r1 g e1 rx c.1
      obtain ⟨bs, q2⟩ := dat_reads I r2 g e2 ry c.2.1
      refine SeqAt.ne_plain q1 q2 c.1 c.2.1 (by omega) ⟨.bl _, H, I, rfl, o.here g (.bool _)⟩
    · cases e
  · cases e
def isNF (neg : Bool) : OpF := fun v u G => match u with
  | .d .none => match v with
    | .d .none => some (.d (.bool (!neg)), G)
    | .fn _ => none
    | .scr _ => none
    | _ => some (.d (.bool neg), G)
  | _ => none
theorem isN_at {K : PySem.W.Frag} {H : Hp} {μ : List Addr} {y : V} {v : DV} {neg b : Bool} {G G' : Ms} {w : DV} (r : IsV K H μ y v) (e : isNF neg v (.d .none) G = some (w, G')) : G' = G ∧ w = .d (.bool (if neg = true then !decide (y = .non) else decide (y = .non))) := by
  cases v with
  | d x =>
    have r' : IsP K H μ y x := r
    cases r' <;> cases e <;> cases neg <;> exact ⟨rfl, by simp⟩
  | fn a => cases e
  | scr ns => cases e
  | mr n =>
    cases e
    obtain ⟨a, rfl, _⟩ := r
    cases neg <;> exact ⟨rfl, by simp⟩
theorem o_isN : OpR X (compareOp .Is) (rD X.K T (isNF false)) := by
  rintro pins s σ H x y v u Q I rx ry ⟨μ, v', u', G, w, G', r1, r2, g, e, o⟩
  have hu : u' = .d .none := by
    unfold isNF at e
    split at e
    · rfl
    · cases e
  subst hu
  cases isV_none r2
  obtain ⟨rfl, rfl⟩ := isN_at (b := true) r1 e
  exact op_isN pins s σ H _ _ v u Q I rx ry ⟨rfl, o.here g (.bool _)⟩
theorem o_notN : OpR X (compareOp .IsNot) (rD X.K T (isNF true)) := by
  rintro pins s σ H x y v u Q I rx ry ⟨μ, v', u', G, w, G', r1, r2, g, e, o⟩
  have hu : u' = .d .none := by
    unfold isNF at e
    split at e
    · rfl
    · cases e
  subst hu
  cases isV_none r2
  obtain ⟨rfl, rfl⟩ := isN_at (b := true) r1 e
  exact op_notN pins s σ H _ _ v u Q I rx ry ⟨rfl, o.here g (.bool _)⟩
/-- x in c, c a list, a tuple -/
def inF (neg : Bool) : OpF := fun v u G => match v, seqOf G u with
  | .d x, some ys => if x.plain = true ∧ PyData.plainAll ys = true ∧ PyData.depthAll ys < 200 then some (.d (.bool (if neg = true then !ys.any (fun y => PyData.eqv y x) else ys.any (fun y => PyData.eqv y x))), G) else none
  | _, _ => none
theorem seq_reads {pins : List (Addr × Obj)} {σ : L2.St} {H : Hp} {s : Shared} {μ : List Addr} {G : Ms} {y : V} {v : DV} {xs : List PyData} {u : Value} (I : Inv X pins σ H s) (r : IsV X.K H μ y v) (g : GR X.K T H μ G) (e : seqOf G v = some xs) (ru : RelV y u) (hp : PyData.plainAll xs = true) :
    (∃ as, Reads s.heap u (.list xs) as) ∨ ∃ as, Reads s.heap u (.tuple xs) as := by
  obtain ⟨a, vs, rfl, q, p⟩ := seq_at r g e
  cases ru
  rcases q with q | q
  · obtain ⟨its, rv, ⟨o, n', ho, hc, hx, hd⟩, _⟩ := I.list q
    obtain ⟨as, z⟩ := IsPs.reads I p rv hp
    exact .inl ⟨_, .list ho hc hd (by simpa using z)⟩
  · obtain ⟨its, rv, ⟨o, ho, hc, n, hd⟩, _⟩ := I.tuple q
    obtain ⟨as, z⟩ := IsPs.reads I p rv hp
    exact .inr ⟨_, .tuple ho hc hd (by simpa using z)⟩
theorem o_in (hu : X.A.units + 201 < cLine) : OpR X (compareOp .In) (rD X.K T (inF false)) := by
  rintro pins s σ H x y v u Q I rx ry ⟨μ, v', u', G, w, G', r1, r2, g, e, o⟩
  unfold inF at e
  split at e
  · rename_i a ys e1
    split at e
    · rename_i c
      cases e
      obtain ⟨as, q1⟩ := IsP.reads I r1 rx c.1
      rcases seq_reads I r2 g e1 ry c.2.1 with ⟨bs, q2⟩ | ⟨bs, q2⟩
      · exact SeqAt.in_list_data q2 q1 c.2.1 c.1 (by omega) ⟨.bl _, H, I, rfl, o.here g (.bool _)⟩
      · exact SeqAt.in_tuple_data q2 q1 c.2.1 c.1 (by omega) ⟨.bl _, H, I, rfl, o.here g (.bool _)⟩
    · cases e
  · cases e
theorem o_notIn (hu : X.A.units + 201 < cLine) : OpR X (compareOp .NotIn) (rD X.K T (inF true)) := by
  rintro pins s σ H x y v u Q I rx ry ⟨μ, v', u', G, w, G', r1, r2, g, e, o⟩
  unfold inF at e
  split at e
  · rename_i a ys e1
    split at e
    · rename_i c
      cases e
      obtain ⟨as, q1⟩ := IsP.reads I r1 rx c.1
      rcases seq_reads I r2 g e1 ry c.2.1 with ⟨bs, q2⟩ | ⟨bs, q2⟩
      · exact SeqAt.notIn_list_data q2 q1 c.2.1 c.1 (by omega) ⟨.bl _, H, I, rfl, o.here g (.bool _)⟩
      · exact SeqAt.notIn_tuple_data q2 q1 c.2.1 c.1 (by omega) ⟨.bl _, H, I, rfl, o.here g (.bool _)⟩
    · cases e
  · cases e

/-! ### unary -/
def negF : UnF := fun v G => match v with
  | .d (.int i) => some (.d (.int (-i)), G)
  | _ => none
theorem u_neg : UnR X (unaryOp .USub) (rU1 X.K T negF) := by
  rintro pins s σ H x v Q I rx ⟨μ, v', G, w, G', r1, g, e, o⟩
  unfold negF at e
  split at e
  · rename_i i
    cases e
    cases isV_int r1
    exact un_neg pins s σ H _ v Q I rx ⟨i, rfl, o.here g (.int _)⟩
  · cases e

/-! ### subscripts -/
def ixF : OpF := fun v u G => match v, u with
  | .d (.str z), .d (.int i) => if z.length ≤ sizeLine then (atI z.cps.toList i).map fun c => (.d (.str ⟨#[c]⟩), G) else none
  | v, .d (.int i) => match seqOf G v with
    | some xs => (atI xs i).map fun x => (.d x, G)
    | none => none
  | _, _ => none
theorem atI_at {K : PySem.W.Frag} {H : Hp} {μ : List Addr} {vs : List V} {xs : List PyData} {i : Int} {x : PyData} (p : IsPs K H μ vs xs) (e : atI xs i = some x) : ∃ v, atI vs i = some v ∧ IsP K H μ v x := by
  unfold atI at e ⊢
  rw [p.length]
  cases h : ixN xs.length i with
  | none => rw [h] at e; cases e
  | some j =>
    rw [h] at e
    obtain ⟨v, e1, r⟩ := p.get (i := j) e
    exact ⟨v, e1, r⟩
theorem x_ix : IxR X (rD X.K T ixF) := by
  rintro value slice pins s σ H x y v u Q I rx ry ⟨μ, v', u', G, w, G', r1, r2, g, e, o⟩
  unfold ixF at e
  split at e
  · rename_i z i
    split at e
    · rename_i hz
      cases h : atI z.cps.toList i with
      | none => rw [h] at e; cases e
      | some c =>
        rw [h] at e
        cases e
        cases isV_str r1
        cases isV_int r2
        exact ix_str value slice pins s σ H _ _ v u Q I rx ry ⟨z, i, c, rfl, rfl, hz, h, o.here g (.str _)⟩
    · cases e
  · rename_i i hne
    split at e
    · rename_i xs e1
      cases h : atI xs i with
      | none => rw [h] at e; cases e
      | some c =>
        rw [h] at e
        cases e
        cases isV_int r2
        obtain ⟨a, vs, rfl, q, p⟩ := seq_at r1 g e1
        obtain ⟨z, e2, r⟩ := atI_at p h
        rcases q with q | q
        · exact ix_list value slice pins s σ H _ _ v u Q I rx ry ⟨a, vs, i, z, rfl, rfl, q, e2, o.here g r⟩
        · exact ix_tup value slice pins s σ H _ _ v u Q I rx ry ⟨a, vs, i, z, rfl, rfl, q, e2, o.here g r⟩
    · cases e
  · cases e
end
section
variable {X : Cx} {T : List (Addr × Str)} {W : WX} {pos : Pos} {e a b c : Expr} {es : List Expr} {ma mb mc : EM}
theorem d_ix {f : OpF} (hr : IxR X (rD X.K T f)) (ha : PE X a (tE X.K X.mg T W ma)) (hb : PE X b (tE X.K X.mg T W mb)) (hs : PlainIx b := by intros; rfl) : PE X (.Subscript a b pos) (tE X.K X.mg T W (binE f ma mb)) :=
  pe_weak (pe_ix hr ha hb hs) fun _ _ _ h => bin_imp h
end
end DL
/-! DLg: slices, methods, builtins, displays, isinstance. -/
namespace DL
open PySem PySem.Spec PyProof.Rows L2

/-! ### slices -/
def cutD {α : Type} (xs : List α) (lo hi : Option Int) : List α := (xs.drop (HT.sIx xs.length 0 lo)).take (HT.sIx xs.length xs.length hi - HT.sIx xs.length 0 lo)
abbrev OM := Sl → Ms → ER (Option Int)
abbrev RO : Hp → List Addr → Option Int → Option Int → Prop := fun _ _ y v => y = v
abbrev tO (K : PySem.W.Frag) (mg : MgT) (T : List (Addr × Str)) (W : WX) (m : OM) : TO := tG K mg T RO W m
def noO : OM := fun _ G => .ok none G
def isI : DV → Option Int
  | .d (.int i) => some i
  | _ => none
def theO (ma : EM) : OM := fun ds G => (ma ds G).bind fun v G1 => (ofO G1 (isI v)).bind fun i G2 => .ok (some i) G2
def sliceF (fz : Bool) (v : DV) (lo hi : Option Int) (G : Ms) : Option (DV × Ms) := match v with
  | .d (.str z) => if z.length ≤ sizeLine then some (.d (.str (cutS z lo hi)), G) else none
  | .d (.tuple xs) => some (.d (.tuple (cutD xs lo hi)), G)
  | .scr ns => newO fz ((cutD ns lo hi).map .int) G
  | v => match lstOf G v with
    | some xs => newO fz (cutD xs lo hi) G
    | none => none
def sliceE (fz : Bool) (ma : EM) (ml mh : OM) : EM := fun ds G => (ma ds G).bind fun v G1 => (ml ds G1).bind fun l G2 => (mh ds G2).bind fun h G3 => liftO (sliceF fz v l h G3)
theorem po_weak {X : Cx} {e : Option Expr} {t t' : TO} (h : PO X e t) (w : ∀ σ H Q, t' σ H Q → t σ H Q) : PO X e t' := ⟨fun pins s σ H Q I q => h.run pins s σ H Q I (w σ H Q q)⟩
theorem cutV_ps {K : PySem.W.Frag} {H : Hp} {μ : List Addr} {vs : List V} {xs : List PyData} (p : IsPs K H μ vs xs) (lo hi : Option Int) : IsPs K H μ (cutV vs lo hi) (cutD xs lo hi) := by
  unfold cutV cutD
  rw [p.length]
  exact (p.drop _).take _
section
variable {X : Cx} {T : List (Addr × Str)} {W : WX} {pos p2 : Pos} {e a b c : Expr} {es : List Expr} {ma mb mc : EM} {m : AM} {lo hi : Option Expr} {ml mh : OM} {fz : Bool}
theorem p_none : PO X none (tO X.K X.mg T W noO) := po_weak po_none fun σ H Q h => by
  obtain ⟨μ, ds, G, hs, g, p⟩ := h
  exact Post.okv (R := RO) p g rfl
theorem p_some (h : PE X e (tE X.K X.mg T W ma)) : PO X (some e) (tO X.K X.mg T W (theO ma)) := po_weak (po_some h) fun σ H Q h => by
  refine (tG.bind (R := RV X.K) (f := fun v ds G1 => (ofO G1 (isI v)).bind fun i G2 => .ok (some i) G2) h).mono ?_
  rintro x H1 ⟨μ1, ds, v, G1, hs, g1, r1, p⟩
  unfold isI at p
  split at p
  · cases isV_int r1
    exact ⟨_, rfl, Post.okv (R := RO) p g1 rfl⟩
  · exact p.elim
def rSlD (K : PySem.W.Frag) (T : List (Addr × Str)) (fz : Bool) : V → Option Int → Option Int → Hp → VK → Prop := fun x lo hi H Q => ∃ μ v G w G', IsV K H μ x v ∧ GR K T H μ G ∧ sliceF fz v lo hi G = some (w, G') ∧ Out K T μ H w G' Q
theorem scr_at {K : PySem.W.Frag} {H : Hp} {μ : List Addr} {y : V} {ns : List Int} (r : IsV K H μ y (.scr ns)) : ∃ a, y = .ref a ∧ SqL K H a (ns.map V.int) := by
  obtain ⟨a, rfl, h⟩ := r
  refine ⟨a, rfl, ?_⟩
  rcases h with ⟨o, e, n⟩ | h
  · exact .inl (.inr ⟨o, e⟩)
  · exact sqL_of h
theorem cutV_ints (ns : List Int) (lo hi : Option Int) : cutV (ns.map V.int) lo hi = (cutD ns lo hi).map V.int := by
  unfold cutV cutD
  rw [List.length_map, List.map_take, List.map_drop]
theorem sl_all : SlR X (rSlD X.K T fz) := by
  intro pins s σ H x v vl vu lo hi sl Q I rx hs pl pu h
  obtain ⟨μ, v', G, w, G', r1, g, e, o⟩ := h
  unfold sliceF at e
  split at e
  · rename_i z
    split at e
    · rename_i hz
      cases e
      cases isV_str r1
      exact sl_str pins s σ H _ v vl vu lo hi sl Q I rx hs pl pu ⟨z, rfl, hz, o.here g (.str _)⟩
    · cases e
  · rename_i xs
    cases e
    obtain ⟨a, vs, rfl, q, p⟩ := tup_at r1
    refine sl_tupA pins s σ H _ v vl vu lo hi sl Q I rx hs pl pu ⟨a, vs, rfl, q, fun hw => ?_, fun hw p' hp => out_tup o g (cutV_ps p lo hi) hp⟩
    have e2 : cutD xs lo hi = xs := by
      unfold cutD
      rw [p.length] at hw
      rw [hw.1, hw.2]
      simp
    rw [e2] at o
    exact o.here g r1
  · rename_i ns
    obtain ⟨a, rfl, q⟩ := scr_at r1
    refine sl_list pins s σ H _ v vl vu lo hi sl Q I rx hs pl pu ⟨a, _, rfl, q, fun p hp => ?_⟩
    rw [cutV_ints]
    exact out_new o e g (IsPs.ints _) hp
  · split at e
    · rename_i xs e1
      obtain ⟨a, vs, rfl, q, p⟩ := lst_at r1 g e1
      exact sl_list pins s σ H _ v vl vu lo hi sl Q I rx hs pl pu ⟨a, vs, rfl, .of q, fun p' hp => out_new o e g (cutV_ps p lo hi) hp⟩
    · cases e
theorem d_slice (he : PE X e (tE X.K X.mg T W ma)) (hl : PO X lo (tO X.K X.mg T W ml)) (hh : PO X hi (tO X.K X.mg T W mh)) : PE X (.Subscript e (.Slice lo hi none p2) pos) (tE X.K X.mg T W (sliceE fz ma ml mh)) :=
  pe_weak (pe_slice (sl_all (fz := fz)) he hl hh) fun σ H Q h => by
    refine (tG.bind (R := RV X.K) (f := fun v ds G1 => (ml ds G1).bind fun l G2 => (mh ds G2).bind fun h G3 => liftO (sliceF fz v l h G3)) h).mono ?_
    rintro x H1 ⟨μ1, ds, v, G1, hs, g1, r1, p⟩
    refine ⟨μ1, ds, G1, hs, g1, ?_⟩
    refine (Post.bind (R := RO) p).mono ?_
    rintro l H2 ⟨μ2, l', G2, s2, rfl, g2, p2⟩
    refine ⟨μ2, ds, G2, hs.mono s2, g2, ?_⟩
    refine (Post.bind (R := RO) p2).mono ?_
    rintro h H3 ⟨μ3, h', G3, s3, rfl, g3, p3⟩
    obtain ⟨w, G', e, o⟩ := out_of p3
    exact ⟨μ3, v, G3, w, G', (r1.mono s2).mono s3, g3, e, o⟩

/-! ### displays -/
def datas : List DV → Option (List PyData)
  | [] => some []
  | .d x :: r => (datas r).map (x :: ·)
  | _ :: _ => none
@[simp] theorem datas_nil : datas [] = some [] := rfl
@[simp] theorem datas_cons (x : PyData) (r : List DV) : datas (.d x :: r) = (datas r).map (x :: ·) := rfl
theorem datas_ps {K : PySem.W.Frag} {H : Hp} {μ : List Addr} {ys : List V} {vs : List DV} {xs : List PyData} (r : IsVs K H μ ys vs) (e : datas vs = some xs) : IsPs K H μ ys xs := by
  induction r generalizing xs with
  | nil => cases e; exact .nil
  | @cons y v ys vs a b ih =>
    cases v with
    | d x =>
      have e' : (datas vs).map (x :: ·) = some xs := e
      cases e1 : datas vs with
      | none => rw [e1] at e'; cases e'
      | some zs =>
        rw [e1] at e'
        cases e'
        exact .cons a (ih e1)
    | fn a => cases e
    | mr n => cases e
    | scr ns => cases e
def tupF : CaF := fun vs G => match datas vs with
  | some xs => if xs.length ≤ sizeLine then some (.d (.tuple xs), G) else none
  | none => none
def listF (fz : Bool) : CaF := fun vs G => match datas vs with
  | some xs => if xs.length ≤ sizeLine then newO fz xs G else none
  | none => none
theorem d_tup {k} (ha : PA X es (tL X.K X.mg T W m)) : PE X (.Tuple es k pos) (tE X.K X.mg T W (callE tupF m)) :=
  pe_weak (pe_tup ha) fun σ H Q h => (call_imp h).mono fun xs H1 ⟨μ, vs, G, w, G', r, g, e, o⟩ => by
    unfold tupF at e
    split at e
    · rename_i zs e1
      split at e
      · rename_i hz
        cases e
        have p := datas_ps r e1
        exact ⟨by rw [p.length]; exact hz, fun q hq => out_tup o g p hq⟩
      · cases e
    · cases e
theorem d_list (ha : PA X es (tL X.K X.mg T W m)) : PE X (.List es pos) (tE X.K X.mg T W (callE (listF fz) m)) :=
  pe_weak (pe_lst ha) fun σ H Q h => (call_imp h).mono fun xs H1 ⟨μ, vs, G, w, G', r, g, e, o⟩ => by
    unfold listF at e
    split at e
    · rename_i zs e1
      split at e
      · rename_i hz
        have p := datas_ps r e1
        exact ⟨by rw [p.length]; exact hz, fun q hq => out_new o e g p hq⟩
      · cases e
    · cases e

/-! ### builtins -/
def lenF : CaF := fun vs G => match vs with
  | [.d (.str z)] => if z.length ≤ sizeLine then some (.d (.int z.length), G) else none
  | [v] => match seqOf G v with
    | some xs => some (.d (.int xs.length), G)
    | none => none
  | _ => none
theorem isVs1 {K : PySem.W.Frag} {H : Hp} {μ : List Addr} {ys : List V} {v : DV} (r : IsVs K H μ ys [v]) : ∃ y, ys = [y] ∧ IsV K H μ y v := by
  cases r with
  | cons a b => cases b; exact ⟨_, rfl, a⟩
theorem isVs2 {K : PySem.W.Frag} {H : Hp} {μ : List Addr} {ys : List V} {v u : DV} (r : IsVs K H μ ys [v, u]) : ∃ y z, ys = [y, z] ∧ IsV K H μ y v ∧ IsV K H μ z u := by
  cases r with
  | cons a b =>
    obtain ⟨z, rfl, c⟩ := isVs1 b
    exact ⟨_, z, rfl, a, c⟩
theorem c_len : CallR X (.builtin "len") (rC X.K T lenF) := by
  rintro pins s σ H ys us Q I ru ⟨μ, vs, G, w, G', r, g, e, o⟩
  unfold lenF at e
  split at e
  · rename_i z
    split at e
    · rename_i hz
      cases e
      obtain ⟨y, rfl, r1⟩ := isVs1 r
      cases isV_str r1
      exact call_len pins s σ H _ us Q I ru ⟨_, z.length, rfl, ⟨hz, rfl⟩, o.here g (.int _)⟩
    · cases e
  · rename_i v hne
    split at e
    · rename_i xs e1
      cases e
      obtain ⟨y, rfl, r1⟩ := isVs1 r
      obtain ⟨a, ws, rfl, q, p⟩ := seq_at r1 g e1
      refine call_len pins s σ H _ us Q I ru ⟨_, ws.length, rfl, ?_, by rw [p.length]; exact o.here g (.int _)⟩
      rcases q with q | q
      · exact .inl ⟨ws, q, rfl⟩
      · exact .inr ⟨ws, q, rfl⟩
    · cases e
  · cases e
def absF : CaF := fun vs G => match vs with
  | [.d (.int i)] => some (.d (.int (if i < 0 then -i else i)), G)
  | _ => none
theorem c_abs : CallR X (.builtin "abs") (rC X.K T absF) := by
  rintro pins s σ H ys us Q I ru ⟨μ, vs, G, w, G', r, g, e, o⟩
  unfold absF at e
  split at e
  · rename_i i
    cases e
    obtain ⟨y, rfl, r1⟩ := isVs1 r
    cases isV_int r1
    exact call_abs pins s σ H _ us Q I ru ⟨i, rfl, o.here g (.int _)⟩
  · cases e
def intF1 : CaF := fun vs G => match vs with
  | [.d (.int i)] => some (.d (.int i), G)
  | [.d (.bool b)] => some (.d (.int (if b then 1 else 0)), G)
  | _ => none
theorem c_int : CallR X (.type "int") (rC X.K T intF1) := by
  rintro pins s σ H ys us Q I ru ⟨μ, vs, G, w, G', r, g, e, o⟩
  unfold intF1 at e
  split at e
  · rename_i i
    cases e
    obtain ⟨y, rfl, r1⟩ := isVs1 r
    cases isV_int r1
    exact call_int1 pins s σ H _ us Q I ru (.inl ⟨i, rfl, o.here g (.int _)⟩)
  · rename_i i
    cases e
    obtain ⟨y, rfl, r1⟩ := isVs1 r
    cases isV_bool r1
    exact call_int1 pins s σ H _ us Q I ru (.inr ⟨i, rfl, o.here g (.int _)⟩)
  · cases e
def gcdF : CaF := fun vs G => match vs with
  | [.d (.int i), .d (.int j)] => some (.d (.int ((Nat.gcd i.natAbs j.natAbs : Nat) : Int)), G)
  | _ => none
theorem c_gcd : CallR X (.builtin "math.gcd") (rC X.K T gcdF) := by
  rintro pins s σ H ys us Q I ru ⟨μ, vs, G, w, G', r, g, e, o⟩
  unfold gcdF at e
  split at e
  · rename_i i j
    cases e
    obtain ⟨y, z, rfl, r1, r2⟩ := isVs2 r
    cases isV_int r1
    cases isV_int r2
    exact cr_gcd pins s σ H _ us Q I ru ⟨i, j, rfl, o.here g (.int _)⟩
  · cases e
def max2F : CaF := fun vs G => match vs with
  | [.d (.int i), .d (.int j)] => some (.d (.int (if j > i then j else i)), G)
  | _ => none
def min2F : CaF := fun vs G => match vs with
  | [.d (.int i), .d (.int j)] => some (.d (.int (if j < i then j else i)), G)
  | _ => none
theorem c_max2 (hc : X.calm = true) : CallR X (.builtin "max") (rC X.K T max2F) := by
  rintro pins s σ H ys us Q I ru ⟨μ, vs, G, w, G', r, g, e, o⟩
  unfold max2F at e
  split at e
  · rename_i i j
    cases e
    obtain ⟨y, z, rfl, r1, r2⟩ := isVs2 r
    cases isV_int r1
    cases isV_int r2
    exact call_max2 hc pins s σ H _ us Q I ru ⟨i, j, rfl, o.here g (.int _)⟩
  · cases e
theorem c_min2 (hc : X.calm = true) : CallR X (.builtin "min") (rC X.K T min2F) := by
  rintro pins s σ H ys us Q I ru ⟨μ, vs, G, w, G', r, g, e, o⟩
  unfold min2F at e
  split at e
  · rename_i i j
    cases e
    obtain ⟨y, z, rfl, r1, r2⟩ := isVs2 r
    cases isV_int r1
    cases isV_int r2
    exact call_min2 hc pins s σ H _ us Q I ru ⟨i, j, rfl, o.here g (.int _)⟩
  · cases e
/-- the ints of a list -/
def intsD : List PyData → Option (List Int)
  | [] => some []
  | .int i :: r => (intsD r).map (i :: ·)
  | _ :: _ => none
def boolsD : List PyData → Option (List Bool)
  | [] => some []
  | .bool i :: r => (boolsD r).map (i :: ·)
  | _ :: _ => none
@[simp] theorem intsD_map (ns : List Int) : intsD (ns.map PyData.int) = some ns := by
  induction ns with
  | nil => rfl
  | cons n r ih => simp [intsD, ih]
@[simp] theorem boolsD_map (ns : List Bool) : boolsD (ns.map PyData.bool) = some ns := by
  induction ns with
  | nil => rfl
  | cons n r ih => simp [boolsD, ih]
theorem intsD_ps {K : PySem.W.Frag} {H : Hp} {μ : List Addr} {ys : List V} {xs : List PyData} {ns : List Int} (r : IsPs K H μ ys xs) (e : intsD xs = some ns) : ys = ns.map V.int := by
  induction xs generalizing ys ns with
  | nil => cases r; cases e; rfl
  | cons x xs ih =>
    cases r with
    | cons a b =>
      cases x <;> try cases e
      rename_i i
      have e' : (intsD xs).map (i :: ·) = some ns := e
      cases e1 : intsD xs with
      | none => rw [e1] at e'; cases e'
      | some zs =>
        rw [e1] at e'
        cases e'
        cases a
        rw [ih b e1]
        rfl
theorem boolsD_ps {K : PySem.W.Frag} {H : Hp} {μ : List Addr} {ys : List V} {xs : List PyData} {ns : List Bool} (r : IsPs K H μ ys xs) (e : boolsD xs = some ns) : ys = ns.map V.bl := by
  induction xs generalizing ys ns with
  | nil => cases r; cases e; rfl
  | cons x xs ih =>
    cases r with
    | cons a b =>
      cases x <;> try cases e
      rename_i i
      have e' : (boolsD xs).map (i :: ·) = some ns := e
      cases e1 : boolsD xs with
      | none => rw [e1] at e'; cases e'
      | some zs =>
        rw [e1] at e'
        cases e'
        cases a
        rw [ih b e1]
        rfl
def ofBools (f : List Bool → Bool) : CaF := fun vs G => match vs with
  | [v] => match (lstOf G v).bind boolsD with
    | some bs => some (.d (.bool (f bs)), G)
    | none => none
  | _ => none
abbrev allF : CaF := ofBools fun bs => bs.all id
abbrev anyF : CaF := ofBools fun bs => bs.any id
theorem ofBools_at {K : PySem.W.Frag} {H : Hp} {μ : List Addr} {G G' : Ms} {ys : List V} {vs : List DV} {f : List Bool → Bool} {w : DV} (r : IsVs K H μ ys vs) (g : GR K T H μ G) (e : ofBools f vs G = some (w, G')) : ∃ a bs, ys = [.ref a] ∧ SqL K H a (bs.map V.bl) ∧ w = .d (.bool (f bs)) ∧ G' = G := by
  unfold ofBools at e
  split at e
  · rename_i v
    split at e
    · rename_i bs e1
      cases e
      obtain ⟨y, rfl, r1⟩ := isVs1 r
      obtain ⟨xs, h1, h2⟩ := Option.bind_eq_some_iff.mp e1
      obtain ⟨a, ws, rfl, q, p⟩ := lst_at r1 g h1
      rw [boolsD_ps p h2] at q
      exact ⟨a, bs, rfl, .of q, rfl, rfl⟩
    · cases e
  · cases e
theorem c_all (hc : X.calm = true) : CallR X (.builtin "all") (rC X.K T allF) := by
  rintro pins s σ H ys us Q I ru ⟨μ, vs, G, w, G', r, g, e, o⟩
  obtain ⟨a, bs, rfl, q, rfl, rfl⟩ := ofBools_at r g e
  exact cr_all hc pins s σ H _ us Q I ru ⟨a, bs, rfl, q, o.here g (.bool _)⟩
theorem c_any (hc : X.calm = true) : CallR X (.builtin "any") (rC X.K T anyF) := by
  rintro pins s σ H ys us Q I ru ⟨μ, vs, G, w, G', r, g, e, o⟩
  obtain ⟨a, bs, rfl, q, rfl, rfl⟩ := ofBools_at r g e
  exact cr_any hc pins s σ H _ us Q I ru ⟨a, bs, rfl, q, o.here g (.bool _)⟩
def ofInts (f : List Int → Option Int) : CaF := fun vs G => match vs with
  | [v] => match ((lstOf G v).bind intsD).bind f with
    | some i => some (.d (.int i), G)
    | none => none
  | _ => none
theorem ofInts_at {K : PySem.W.Frag} {H : Hp} {μ : List Addr} {G G' : Ms} {ys : List V} {vs : List DV} {f : List Int → Option Int} {w : DV} (r : IsVs K H μ ys vs) (g : GR K T H μ G) (e : ofInts f vs G = some (w, G')) : ∃ a ns i, ys = [.ref a] ∧ SqL K H a (ns.map V.int) ∧ f ns = some i ∧ w = .d (.int i) ∧ G' = G := by
  unfold ofInts at e
  split at e
  · rename_i v
    split at e
    · rename_i i e1
      cases e
      obtain ⟨y, rfl, r1⟩ := isVs1 r
      obtain ⟨ns, h1, h2⟩ := Option.bind_eq_some_iff.mp e1
      obtain ⟨xs, h3, h4⟩ := Option.bind_eq_some_iff.mp h1
      obtain ⟨a, ws, rfl, q, p⟩ := lst_at r1 g h3
      rw [intsD_ps p h4] at q
      exact ⟨a, ns, i, rfl, .of q, h2, rfl, rfl⟩
    · cases e
  · cases e
abbrev sumF : CaF := ofInts fun ns => some ns.sum
/-- the least, the greatest -/
def leastI : List Int → Option Int
  | [] => none
  | x :: r => some (r.foldl min x)
def mostI : List Int → Option Int
  | [] => none
  | x :: r => some (r.foldl max x)
theorem foldl_min : ∀ (r : List Int) (x : Int), (r.foldl min x ∈ x :: r) ∧ ∀ y ∈ x :: r, r.foldl min x ≤ y
  | [], x => by simp
  | z :: r, x => by
    obtain ⟨h1, h2⟩ := foldl_min r (min x z)
    refine ⟨?_, fun y hy => ?_⟩
    · rcases List.mem_cons.mp h1 with e | e
      · rw [List.foldl_cons, e]
        rcases Int.le_total x z with h | h
        · rw [Int.min_eq_left h]; simp
        · rw [Int.min_eq_right h]; simp
      · rw [List.foldl_cons]; exact List.mem_cons_of_mem _ (List.mem_cons_of_mem _ e)
    · have h3 := h2 (min x z) (by simp)
      rw [List.foldl_cons]
      rcases List.mem_cons.mp hy with e | e
      · subst e; omega
      · rcases List.mem_cons.mp e with e | e
        · subst e; omega
        · exact h2 y (List.mem_cons_of_mem _ e)
theorem foldl_max : ∀ (r : List Int) (x : Int), (r.foldl max x ∈ x :: r) ∧ ∀ y ∈ x :: r, y ≤ r.foldl max x
  | [], x => by simp
  | z :: r, x => by
    obtain ⟨h1, h2⟩ := foldl_max r (max x z)
    refine ⟨?_, fun y hy => ?_⟩
    · rcases List.mem_cons.mp h1 with e | e
      · rw [List.foldl_cons, e]
        rcases Int.le_total x z with h | h
        · rw [Int.max_eq_right h]; simp
        · rw [Int.max_eq_left h]; simp
      · rw [List.foldl_cons]; exact List.mem_cons_of_mem _ (List.mem_cons_of_mem _ e)
    · have h3 := h2 (max x z) (by simp)
      rw [List.foldl_cons]
      rcases List.mem_cons.mp hy with e | e
      · subst e; omega
      · rcases List.mem_cons.mp e with e | e
        · subst e; omega
        · exact h2 y (List.mem_cons_of_mem _ e)
abbrev minF : CaF := ofInts leastI
abbrev maxF : CaF := ofInts mostI
theorem c_sum (hc : X.calm = true) : CallR X (.builtin "sum") (rC X.K T sumF) := by
  rintro pins s σ H ys us Q I ru ⟨μ, vs, G, w, G', r, g, e, o⟩
  obtain ⟨a, ns, i, rfl, q, h, rfl, rfl⟩ := ofInts_at r g e
  cases h
  exact cr_sum hc pins s σ H _ us Q I ru ⟨a, ns, rfl, q, o.here g (.int _)⟩
theorem c_min (hc : X.calm = true) : CallR X (.builtin "min") (rC X.K T minF) := by
  rintro pins s σ H ys us Q I ru ⟨μ, vs, G, w, G', r, g, e, o⟩
  obtain ⟨a, ns, i, rfl, q, h, rfl, rfl⟩ := ofInts_at r g e
  cases ns with
  | nil => cases h
  | cons x ns =>
    cases h
    obtain ⟨h1, h2⟩ := foldl_min ns x
    refine cr_min hc pins s σ H _ us Q I ru ⟨a, x :: ns, rfl, q, by simp, fun m hm hl => ?_⟩
    have e : m = ns.foldl min x := Int.le_antisymm (hl _ h1) (h2 _ hm)
    rw [e]
    exact o.here g (.int _)
theorem c_max (hc : X.calm = true) : CallR X (.builtin "max") (rC X.K T maxF) := by
  rintro pins s σ H ys us Q I ru ⟨μ, vs, G, w, G', r, g, e, o⟩
  obtain ⟨a, ns, i, rfl, q, h, rfl, rfl⟩ := ofInts_at r g e
  cases ns with
  | nil => cases h
  | cons x ns =>
    cases h
    obtain ⟨h1, h2⟩ := foldl_max ns x
    refine cr_max hc pins s σ H _ us Q I ru ⟨a, x :: ns, rfl, q, by simp, fun m hm hl => ?_⟩
    have e : m = ns.foldl max x := Int.le_antisymm (h2 _ hm) (hl _ h1)
    rw [e]
    exact o.here g (.int _)
def tupleF : CaF := fun vs G => match vs with
  | [v] => match seqOf G v with
    | some xs => some (.d (.tuple xs), G)
    | none => none
  | _ => none
theorem c_tuple : CallR X (.type "tuple") (rC X.K T tupleF) := by
  rintro pins s σ H ys us Q I ru ⟨μ, vs, G, w, G', r, g, e, o⟩
  unfold tupleF at e
  split at e
  · rename_i v
    split at e
    · rename_i xs e1
      cases e
      obtain ⟨y, rfl, r1⟩ := isVs1 r
      by_cases ht : ∃ zs, v = .d (.tuple zs)
      · obtain ⟨zs, rfl⟩ := ht
        cases e1
        obtain ⟨a, ws, rfl, q, p⟩ := tup_at r1
        exact call_tuple_of pins s σ H _ us Q I ru ⟨a, ws, rfl, .inr ⟨q, o.here g r1⟩⟩
      · have e' : lstOf G v = some xs := by
          rw [← e1]
          unfold seqOf
          split
          · exact absurd ⟨_, rfl⟩ ht
          · rfl
        obtain ⟨a, ws, rfl, q, p⟩ := lst_at r1 g e'
        exact call_tuple_of pins s σ H _ us Q I ru ⟨a, ws, rfl, .inl ⟨.of q, fun l hl => out_tup o g p hl⟩⟩
    · cases e
  · cases e
def listOfF (fz : Bool) : CaF := fun vs G => match vs with
  | [v] => match seqOf G v with
    | some xs => newO fz xs G
    | none => none
  | _ => none
theorem c_list : CallR X (.type "list") (rC X.K T (listOfF fz)) := by
  rintro pins s σ H ys us Q I ru ⟨μ, vs, G, w, G', r, g, e, o⟩
  unfold listOfF at e
  split at e
  · rename_i v
    split at e
    · rename_i xs e1
      obtain ⟨y, rfl, r1⟩ := isVs1 r
      obtain ⟨a, ws, rfl, q, p⟩ := seq_at r1 g e1
      exact call_list_of pins s σ H _ us Q I ru ⟨a, ws, rfl, q, fun l hl => out_new o e g p hl⟩
    · cases e
  · cases e

/-! ### isinstance -/
def tyOf (G : Ms) : DV → Option String
  | .d .none => some "NoneType"
  | .d (.bool _) => some "bool"
  | .d (.int _) => some "int"
  | .d (.str _) => some "str"
  | .d (.list _) => some "list"
  | .d (.tuple _) => some "tuple"
  | .d (.dict _) => some "dict"
  | .mr n => match G[n]? with | some (.lst _) => some "list" | none => none
  | _ => none
theorem tyX_of {K : PySem.W.Frag} {H : Hp} {μ : List Addr} {G : Ms} {y : V} {v : DV} {t : String} (r : IsV K H μ y v) (g : GR K T H μ G) (e : tyOf G v = some t) : TyX K H y (.type t) := by
  cases v with
  | d x =>
    have r' : IsP K H μ y x := r
    cases r' <;> cases e
    · exact .base .non
    · exact .base (.bl _)
    · exact .base (.int _)
    · exact .base (.str _)
    · rename_i f h; exact .base (.tup f.1)
    · rename_i a vs ds f h
      rcases f with (z | ⟨o, z⟩) | ⟨o, its, n, h1, h2, _⟩
      · cases z
      · cases z
      · exact .kTuple h1 h2
    · rename_i f h; exact .base (.lst f.1)
    · rename_i f h; exact .base (.dK f.1)
  | fn a => cases e
  | scr ns => cases e
  | mr n =>
    obtain ⟨a, rfl, hm⟩ := r
    have e' : (match G[n]? with | some (.lst _) => some "list" | none => none) = some t := e
    cases hG : G[n]? with
    | none => rw [hG] at e'; cases e'
    | some o =>
      cases o with
      | lst ws =>
        rw [hG] at e'
        cases e'
        obtain ⟨vs, h1, h2⟩ := g.at_ n a _ hm hG
        exact .base (.lst h1)
def isSub (t c : String) : Bool := t == c || (t == "bool" && c == "int")
def isiF (c : String) : UnF := fun v G => match tyOf G v with
  | some t => some (.d (.bool (isSub t c)), G)
  | none => none
end
end DL
/-! DSa: set(tuple of tuples of ints); sorted(such a set). -/
namespace DL
open PySem PySem.Spec PyProof.Rows L2

abbrev KsT := List (Addr × List Int)
def freshSet (w : World) : Obj := { cls := .type "set", dict := none, data := .set #[] 0 (.fresh 0 0 (!w.params.followText "set-order")) }
section
variable {P : Program} {w : World} {A : Around} {E : Value → Shared → Prop} {s : Shared}
set_option maxHeartbeats 6000000 in
/-- set(xs), xs a tuple -/
theorem set_of_tup {l : Addr} {its : Array Value} (ks : KsT) {Q : Value → Shared → Prop} (hnd : A.handled = none) (hl : s.heap.IsTuple l its) (hks : its.toList = ks.map fun p => Value.ref p.1)
    (htp : ∀ p ∈ ks, IsT P w s.heap p.2 p.1) (h64 : ks.length < 64) (hun : A.units + 3 < cLine)
    (hQ : ∀ (g : Heap) (tk : Nat) L es ep t, SetTR P w g s.heap.objs.size L es ep t → Got ks ks.length L → (∀ b o, s.heap.get? b = some o → g.get? b = some o) → Q (.ref s.heap.objs.size) { s with heap := g, toks := tk }) :
    wpAny (model P w) A (call (.type "set") [.ref l]) Q E s := by
  have hcount : its.size = ks.length := by
    rw [← Array.length_toList, hks, List.length_map]
  obtain ⟨c, tl, hmro⟩ := F.called_set.mro
  have made := F.called_set.made
  have subs := F.called_set.sub
  refine wpAny_call (codeAny_of_tree ?_)
  show wpAny _ _ (callAny (.type "set") _) _ _ _
  refine wpAny_pure ⟨Code.quiet_builtin _ (by decide +kernel), codeAny_builtin F.entry_type_call ?_⟩
  rw [Around.under_plain (weight_type_call_type "set" [.ref l] []) rfl]
  have n1 := F.called_set.notType
  have n2 := F.called_set.canCreate
  have n3 := F.typeCall_set_1 (.ref l)
  repeat (any_goals (first | assumption | wp_step))
  refine codeAny_mono (code_set_led1 (.ref l) (E := E) (Q₁ := fun ob s₁ => ob = .ref s.heap.objs.size ∧ s₁ = { s with heap := s.heap.push (freshSet w) }) ⟨rfl, rfl⟩) fun rr s₁ hr => ?_
  cases rr with
  | error e => exact hr
  | ok fl =>
    cases fl with
    | ret ob =>
      obtain ⟨rfl, rfl⟩ := hr
      have hS : (s.heap.push (freshSet w)).get? s.heap.objs.size = some (freshSet w) := Heap.get?_push_size _ rfl
      have hT : Shared.TypeIs { s with heap := s.heap.push (freshSet w) } (.ref s.heap.objs.size) "set" := ⟨_, hS, rfl⟩
      have i1 := F.called_set.init.lookup
      have i2 := F.called_set.init.bind (.ref s.heap.objs.size)
      repeat (any_goals (first | assumption | wp_step))
      refine codeAny_mono (codeAny_call_builtin (R := wants (fun r s₂ => r = .none ∧ ∃ g tk L es ep t, s₂ = { s with heap := g, toks := tk } ∧ SetTR P w g s.heap.objs.size L es ep t ∧ Got ks ks.length L ∧
          (∀ b o, s.heap.get? b = some o → g.get? b = some o)) E) F.called_set.init.plain F.entry_set_init (check_set_init_1 hT ?_)) fun r2 s2 hr2 => ?_
      · obtain ⟨ot, hot, hct, nt, hdt⟩ := hl
        obtain ⟨oc, od, odt, osl⟩ := ot
        simp only at hct hdt
        subst hct; subst hdt
        have hot' : (s.heap.push (freshSet w)).get? l = some { cls := .type "tuple", dict := od, data := .seq its nt, slots := osl } := Heap.get?_push_of_some _ hot
        have q1 := F.sub_tuple_set
        have q2 := F.sub_tuple_frozenset
        have q3 : (Value.type "tuple" == Value.type "dict") = false := by decide
        have htup : (s.heap.push (freshSet w)).IsTuple l its := ⟨_, hot', rfl, nt, rfl⟩
        unfold Builtin.«set.__init__» noKeywords Builtin.Frozenset.updateFrom
        generalize hPI : pyIter = PI
        wp_walk
        subst hPI
        refine wpAny_pyIter_tuple htup ?_
        refine wpAny_bind (wpAny_runValue ?_)
        have hlt : l < s.heap.objs.size := Heap.lt_size hot
        have hnd3 : A.in1.in1.in1.handled = none := by simp [hnd]
        have hsz1 : (s.heap.push (freshSet w)).objs.size = s.heap.objs.size + 1 := Heap.size_push ..
        have hlI : l ≠ (s.heap.push (freshSet w)).objs.size := by rw [hsz1]; exact Nat.ne_of_lt (Nat.lt_of_lt_of_le hlt (Nat.le_succ _))
        have hSI : s.heap.objs.size ∉ [(s.heap.push (freshSet w)).objs.size, l] := by
          rw [hsz1]
          simp only [List.mem_cons, List.not_mem_nil, or_false, not_or]
          exact ⟨Nat.ne_of_lt (Nat.lt_succ_self _), fun z => Nat.ne_of_lt hlt z.symm⟩
        have hval : ∀ (i : Nat) (v : Value), its[i]? = some v → ∃ p, ks[i]? = some p ∧ v = .ref p.1 := fun i v hv => by
          have q : its.toList[i]? = some v := (Array.getElem?_toList ..).trans hv
          rw [hks, List.getElem?_map] at q
          obtain ⟨p, e1, e2⟩ := Option.map_eq_some_iff.mp q
          exact ⟨p, e1, e2.symm⟩
        have outside : ∀ b, s.heap.objs.size ≤ b → s.heap.get? b = none := fun b hb => by
          cases q : s.heap.get? b with
          | none => rfl
          | some o => exact absurd (Nat.lt_of_lt_of_le (Heap.lt_size q) hb) (Nat.lt_irrefl _)
        have old0 : ∀ b o, s.heap.get? b = some o → (((s.heap.push (freshSet w)).push { cls := .type "tuple_iterator", data := .fields #[.ref l, .int 0 0] })).get? b = some o := fun b o e => Heap.get?_push_of_some _ (Heap.get?_push_of_some _ e)
        refine set_update_tups ((Walks.tuple hnd3 _ l hlI its).toS) s.heap.objs.size hSI ks hcount h64 hval s.heap htp (outside _ (Nat.le_refl _)) (fun b hb => outside b ?_) hun (its.size - 0) 0 _ (by omega) (Nat.zero_le _)
          ⟨⟨_, Heap.get?_push_size _ rfl, rfl, rfl⟩, (htup.push _)⟩ old0 ⟨[], #[], 0, _, setTR_fresh (Heap.get?_push_of_some _ hS), Got.zero ks⟩ ?_
        · rw [List.mem_singleton.mp hb, hsz1]; exact Nat.le_succ _
        · intro s' L es ep t mv hR got kp
          obtain ⟨g0, g1, g2, g3, g4⟩ := s'
          cases (show g1 = s.gens from mv.gens)
          cases (show g2 = s.drawn from mv.drawn)
          cases (show g4 = s.os from mv.os)
          show wpAny _ _ _ _ _ _
          refine wpAny_pure ?_
          show wpAny _ _ (ret Value.none) _ _ _
          rw [hcount] at got
          exact wpAny_pure ⟨rfl, g0, g3, L, es, ep, t, rfl, hR, got, kp⟩
      · cases r2 with
        | error e => exact hr2
        | ok fl2 =>
          cases fl2 with
          | ret r =>
            obtain ⟨rfl, g0, tk, L, es, ep, t, rfl, hR, got, kp⟩ := hr2
            repeat (any_goals (first | assumption | wp_step))
            exact hQ _ _ _ _ _ _ hR got kp
          | _ => exact hr2.elim
    | _ => exact hr.elim
end
end DL
/-! DSb: sorted(set(..)) of tuples of ints, whatever the ints are; a dict's keys. -/
namespace DL
open PySem PySem.Spec PyProof.Rows L2

theorem perm_lift {α β : Type} {f : α → β} {vs ws : List β} (h : vs.Perm ws) : ∀ L : List α, ws = L.map f → ∃ L1 : List α, L1.Perm L ∧ vs = L1.map f := by
  induction h with
  | nil =>
    intro L e
    exact ⟨L, .refl _, e⟩
  | cons x _ ih =>
    intro L e
    cases L with
    | nil => cases e
    | cons q L =>
      simp only [List.map_cons, List.cons.injEq] at e
      obtain ⟨L1, p, e1⟩ := ih L e.2
      exact ⟨q :: L1, p.cons q, by rw [List.map_cons, e.1, e1]⟩
  | swap x y l =>
    intro L e
    cases L with
    | nil => cases e
    | cons q L =>
      cases L with
      | nil => simp at e
      | cons r L =>
        simp only [List.map_cons, List.cons.injEq] at e
        obtain ⟨e1, e2, e3⟩ := e
        exact ⟨r :: q :: L, .swap _ _ _, by rw [List.map_cons, List.map_cons, e1, e2, e3]⟩
  | trans _ _ ih1 ih2 =>
    intro L e
    obtain ⟨L1, p1, e1⟩ := ih2 L e
    obtain ⟨L2, p2, e2⟩ := ih1 L1 e1
    exact ⟨L2, p2.trans p1, e2⟩
abbrev encT : Addr × List Int → PyData := fun q => .tuple (q.2.map .int)
theorem eachIs_ref : ∀ {out : List Value} {bs : KsT}, PySem.W.EachIs (fun v q => v = Value.ref q.1) out bs → out = bs.map fun q => Value.ref q.1
  | _, _, .nil => rfl
  | _, _, .cons h t => by rw [List.map_cons, h, eachIs_ref t]
theorem eachIs_map {R : Value → Addr × List Int → Prop} : ∀ {bs : KsT}, (∀ q ∈ bs, R (.ref q.1) q) → PySem.W.EachIs R (bs.map fun q => Value.ref q.1) bs
  | [], _ => .nil
  | q :: bs, h => .cons (h q (by simp)) (eachIs_map fun r hr => h r (by simp [hr]))
theorem ints_read {h : Heap} {P : Program} {w : World} : ∀ {k : List Int} {vs : List Value}, ItemsAre (intKind P w) k vs → ReadsAll h vs (k.map PyData.int) []
  | _, _, .nil => .nil
  | _, _, .cons h1 t => by
    obtain ⟨tk, rfl⟩ := Value.isInt_shape h1
    exact .cons (as := []) (bs := []) (.int _ tk) (ints_read t)
theorem isT_reads {P : Program} {w : World} {h : Heap} {k : List Int} {b : Addr} (x : IsT P w h k b) : Reads h (.ref b) (.tuple (k.map .int)) [] := by
  obtain ⟨o, its, n, ho, hc, hd, hi⟩ := x
  exact .tuple ho hc hd (ints_read hi)
theorem alike_rows (bs : KsT) : PySem.W.AllAlike (bs.map encT) := by
  intro x hx y hy
  obtain ⟨q, _, rfl⟩ := List.mem_map.mp hx
  obtain ⟨r, _, rfl⟩ := List.mem_map.mp hy
  show PySem.W.alike (.tuple _) (.tuple _) = true
  rw [PySem.W.alike]
  exact PySem.W.alike_ints _ _
theorem depth_row (q : Addr × List Int) : (encT q).depth ≤ 1 := by
  show PyData.depth (.tuple _) ≤ 1
  rw [PyData.depth, PySem.W.depth_ints]
  exact Nat.le_refl _
section
variable {P : Program} {w : World} {A : Around} {E : Value → Shared → Prop} {s : Shared}
/-- a new list of the tuples is sorted -/
theorem sort_new {Q : Value → Shared → Prop} (bs : KsT) (hT : ∀ q ∈ bs, IsT P w s.heap q.2 q.1) (hne : ∀ q ∈ bs, q.2 ≠ []) (hL : bs.length ≤ sizeLine) (hu : A.units + 3 < cLine)
    (hQ : ∀ (g : Heap) c, (∀ b o, s.heap.get? b = some o → g.get? b = some o) → g.get? s.heap.objs.size = some (seqObj "list" ((bs.mergeSort (PySem.W.dataLe false encT)).map fun q => Value.ref q.1).toArray c) → Q .none { s with heap := g }) :
    wpAny (model P w) A (call (.builtin "list.sort") [.ref s.heap.objs.size]) Q E { s with heap := s.heap.push (seqObj "list" (bs.map fun q => Value.ref q.1).toArray 0) } := by
  have ho : (s.heap.push (seqObj "list" (bs.map fun q => Value.ref q.1).toArray 0)).get? s.heap.objs.size = some (seqObj "list" (bs.map fun q => Value.ref q.1).toArray 0) := Heap.get?_push_size _ rfl
  refine PySem.W.list_sort_data (s := { s with heap := s.heap.push (seqObj "list" (bs.map fun q => Value.ref q.1).toArray 0) }) (R := fun v q => v = Value.ref q.1) (enc := encT) ho (eachIs_map fun q _ => rfl) (eachIs_map fun q hq => ?_) (alike_rows bs) (.inl fun d hd => ?_) hL (fun q hq => ?_) fun out hl he => ?_
  · exact ⟨[], isT_reads (isT_keep (hT q hq) fun b o e => Heap.get?_push_of_some _ e), by simp⟩
  · obtain ⟨q, hq, rfl⟩ := List.mem_map.mp hd
    cases e : q.2 with
    | nil => exact absurd e (hne q hq)
    | cons x r => exact ⟨.int x, r.map .int, by show PyData.tuple _ = _; rw [e]; rfl⟩
  · have := depth_row q
    omega
  · obtain ⟨c, hc⟩ := sortedHeap_at (vs := bs.map fun q => Value.ref q.1) (out := out.toArray) ho
    rw [eachIs_ref he] at hc ⊢
    refine hQ _ c (fun b o e => ?_) hc
    have hb := Heap.lt_size e
    rw [sortedHeap_old (Nat.ne_of_lt hb) (by rw [size_push']; exact Nat.lt_succ_of_lt hb)]
    exact Heap.get?_push_of_some _ e
theorem sort_setAny {a : Addr} {L : KsT} {es : Array (Int × Value)} {ep : Nat} {t : SetTable} {Q : Value → Shared → Prop} (R : SetTR P w s.heap a L es ep t) (hh : A.handled = none) (hne : ∀ p ∈ L, p.2 ≠ []) (hu : A.units + 5 < cLine)
    (hQ : ∀ s' p c (L1 : KsT), (∀ b o, s.heap.get? b = some o → s'.heap.get? b = some o) → s'.gens = s.gens → s'.os = s.os → s.heap.objs.size ≤ p → L1.Perm L →
      s'.heap.get? p = some (seqObj "list" ((L1.mergeSort (PySem.W.dataLe false encT)).map fun q => Value.ref q.1).toArray c) → Q (.ref p) s') : wpAny (model P w) A (call (.builtin "sorted") [.ref a]) Q E s := by
  obtain ⟨o, ho, hex, hd⟩ := R.ob
  have nL := R.size
  have n64 := R.few
  refine Calls.call_function_entry kind_sorted plain_sorted entry_sorted (args_sorted1 _) ?_
  unfold Builtin.«sorted»
  refine wpAny_bind (m := checkCount "sorted" 1 1 _) (wpAny_pure ?_)
  refine wpAny_bind (collect_set (A := A.in1) hh ⟨o, ho, hex.1, hd⟩ R.fits (by unfold scanBound; omega) R.tab.ris R.led fun s1 vs k1 hz g1 o1 pm => ?_)
  have em : es.toList.map (·.2) = L.map fun q => Value.ref q.1 := by
    rw [R.rows]
    unfold rowsOf
    rw [List.map_map]
    rfl
  rw [em] at pm
  obtain ⟨L1, p1, rfl⟩ := perm_lift pm L rfl
  have l64 : L1.length < 64 := by rw [p1.length_eq]; exact n64
  refine wpAny_bind (wpAny_newList ?_ (by rw [sizeLine_eq, List.length_map]; omega))
  refine wpAny_bind (wpAny_holding (sort_new (s := s1) L1 (fun q hq => isT_keep (R.tup q (p1.mem_iff.mp hq)) k1) (fun q hq => hne q (p1.mem_iff.mp hq)) (by rw [sizeLine_eq]; omega) (by show A.in1.units + 3 < cLine; have : A.in1.units = A.units + 1 := rfl; omega) fun g c kp hg => ?_))
  exact wpAny_pure ⟨_, rfl, hQ _ s1.heap.objs.size c L1 (fun b u e => kp b u (k1 b u e)) g1 o1 hz p1 hg⟩
end
end DL
/-! DSc: dict comprehensions whose keys are tuples of ints; sorted(such a dict). -/
namespace DL
open PySem PySem.Spec PyProof.Rows L2

/-! ### the dict at a: its keys' ints, where they stand, what is stored -/
abbrev KeT := List (List Int × Addr × V)
abbrev KeV := List (List Int × Addr × Value)
abbrev KRel : KeT → KeV → Prop := Paired fun p q => p.1 = q.1 ∧ p.2.1 = q.2.1 ∧ RelV p.2.2 q.2.2
def DT0 (P : Program) (w : World) (a : Addr) (L : KeT) (h : Heap) : Prop := (a == sysModules) = false ∧ ∃ (xs : KeV) (o : Obj) (es : Array DictEntry) (ep : Nat), KRel L xs ∧ h.get? a = some o ∧ o.ExactDict ∧ o.data = .dict es ep ∧ es.toList = xs.map (entryOfKey (tupleKind (intKind P w))) ∧ (xs.map (·.1)).Nodup
def DTO (P : Program) (w : World) (a : Addr) (L : KeT) : HO := .ext (DT0 P w a L)
/-- the key k in the list: the place of an equal key, or a new one behind -/
def putT (L : KeT) (k : List Int) (b : Addr) (v : V) : KeT := if L.any (fun p => decide (p.1 = k)) then L.map (fun p => if p.1 = k then (p.1, p.2.1, v) else p) else L ++ [(k, b, v)]
theorem krel_any {L : KeT} {xs : KeV} (r : KRel L xs) (k : List Int) : L.any (fun p => decide (p.1 = k)) = (atKey xs k).isSome := by
  induction r with
  | nil => rfl
  | @cons p q ps qs h t ih =>
    rw [List.any_cons, ih, h.1]
    by_cases e : q.1 = k
    · simp [atKey, List.find?_cons, e]
    · simp [atKey, List.find?_cons, e]
theorem paired_snoc {α β : Type} {F : α → β → Prop} {l : List α} {m : List β} (r : Paired F l m) {x : α} {y : β} (h : F x y) : Paired F (l ++ [x]) (m ++ [y]) := by
  induction r with
  | nil => exact .cons h .nil
  | cons a _ ih => exact .cons a ih
theorem krel_map {L : KeT} {xs : KeV} (r : KRel L xs) (k : List Int) {v : V} {u : Value} (rv : RelV v u) : KRel (L.map (fun p => if p.1 = k then (p.1, p.2.1, v) else p)) (xs.map (putAt k u)) := by
  induction r with
  | nil => exact .nil
  | @cons p q ps qs h t ih =>
    rw [List.map_cons, List.map_cons]
    refine .cons ?_ ih
    obtain ⟨h1, h2, h3⟩ := h
    unfold putAt
    by_cases e : q.1 = k
    · rw [if_pos e, if_pos (h1.trans e)]; exact ⟨h1, h2, rv⟩
    · rw [if_neg e, if_neg (fun z => e (h1.symm.trans z))]; exact ⟨h1, h2, h3⟩
theorem krel_put {L : KeT} {xs : KeV} (r : KRel L xs) (k : List Int) (b : Addr) {v : V} {u : Value} (rv : RelV v u) : KRel (putT L k b v) (storedH xs k b u) := by
  unfold putT storedH
  rw [krel_any r k]
  split
  · exact krel_map r k rv
  · exact paired_snoc r ⟨rfl, rfl, rv⟩
theorem dto_ok {P : Program} {w : World} {H : Hp} {h : Heap} {a : Addr} {L : KeT} (d : DT0 P w a L h) : ObjOk P w H h a (DTO P w a L) := by
  refine ⟨d, ?_, fun h1 h2 p k => ?_⟩
  · obtain ⟨lo, xs, o, es, ep, r, e, z⟩ := d
    exact ⟨o, e⟩
  · obtain ⟨lo, xs, o, es, ep, r, e, z⟩ := p
    exact ⟨lo, xs, o, es, ep, r, k o e, z⟩
theorem dto_new {P : Program} {w : World} {H : Hp} (h : Heap) (hb : sysModules < h.objs.size) : ObjOk P w H (h.push { cls := .type "dict", data := .dict #[] }) h.objs.size (DTO P w h.objs.size []) :=
  dto_ok ⟨beq_eq_false_iff_ne.mpr (Nat.ne_of_gt hb), [], _, #[], 0, .nil, Heap.get?_push_size _ rfl, ⟨rfl, rfl, rfl⟩, rfl, rfl, List.nodup_nil⟩
theorem krel_mem {L : KeT} {xs : KeV} (r : KRel L xs) : ∀ q ∈ xs, ∃ p ∈ L, p.1 = q.1 ∧ p.2.1 = q.2.1 := by
  induction r with
  | nil => intro q hq; cases hq
  | @cons p q ps qs h t ih =>
    intro z hz
    rcases List.mem_cons.mp hz with e | e
    · subst e
      exact ⟨p, by simp, h.1, h.2.1⟩
    · obtain ⟨p', h1, h2⟩ := ih z e
      exact ⟨p', by simp [h1], h2⟩
theorem paired_len {α β : Type} {F : α → β → Prop} {l : List α} {m : List β} (r : Paired F l m) : l.length = m.length := Paired.length r
section
variable {X : Cx} {pins : List (Addr × Obj)} {σ : L2.St} {H : Hp} {s : Shared} {E : Value → Shared → Prop} {D b : Addr} {L : KeT} {k : List Int} {v : V} {u : Value}
/-- d[k] = v within a comprehension -/
theorem dto_set {Q : Unit → Shared → Prop} (hu : X.A.units < cLine) (I : Inv X pins σ H s) (hD : H D = some (DTO X.prog X.w D L)) (hL : ∀ p ∈ L, SqT X.K H p.2.1 (p.1.map V.int)) (hb : SqT X.K H b (k.map V.int)) (hz : L.length ≤ sizeLine) (rv : RelV v u)
    (h : ∀ s', Inv X pins σ (upd H D (DTO X.prog X.w D (putT L k b v))) s' → Q () s') : wpAny (model X.prog X.w) X.A (dictSet D (.ref b) u) Q E s := by
  obtain ⟨lo, xs, o, es, ep, r, e1, e2, e3, e4, e5⟩ := (I.hok D _ hD).1
  have ks : ∀ x ∈ xs, (tupleKind (intKind X.prog X.w)).is s.heap x.1 x.2.1 := fun x hx => by
    obtain ⟨p, hp, q1, q2⟩ := krel_mem r x hx
    rw [← q1, ← q2]
    exact I.isT (hL p hp)
  have hsz : xs.length ≤ sizeLine := by rw [← paired_len r]; exact hz
  refine wpAny_dictSet_heap (hsz := hsz) (knd := tupleKind (intKind X.prog X.w)) hu (I.isT hb) ⟨o, es, ep, e1, e2, e3, e4, ks, e5⟩ fun g dd sb => h _ ?_
  obtain ⟨o', es', ep', f1, f2, f3, f4, f5, f6⟩ := dd
  exact d_write I (by rw [hD]; exact True.intro) sb ⟨o', f1⟩ (dto_ok ⟨lo, _, o', es', ep', krel_put r k b rv, f1, f2, f3, f4, f6⟩)
end
section
variable {X : Cx}
/-- {k: v for ..} : D the new dict; what is put is told by the key's ints -/
def tDt (P : Program) (w : World) (K : PySem.W.Frag) (wi : TI) (g : TG) (tt : TT) (tk tv : TE) (vs : List Nat) : TE := fun σ H Q => wi σ H fun J H1 => ∀ D, H1 D = none → ∃ Z : Nat → Nat → Hp → Prop, (∃ m, Z 0 m (upd H1 D (DTO P w D []))) ∧ ∀ i m H, Z i m H →
  (J.stop i H ∧ Q (.ref D) H) ∨ (J.go i H ∧ ∃ Nx : Hp → Prop, (∀ H', Nx H' → ∃ m', m' < m ∧ Z (i + 1) m' H') ∧ ∀ x H', J.yld i H x H' → g x (wipe σ vs) H' fun σ2 H2 => wipe σ2 vs = wipe σ vs ∧ tt σ2 H2 fun b H3 =>
    if b = true then tk σ2 H3 fun y H4 => tv σ2 H4 fun z H5 => ∃ L k c, y = .ref c ∧ SqT K H5 c (k.map V.int) ∧ H5 D = some (DTO P w D L) ∧ (∀ p ∈ L, SqT K H5 p.2.1 (p.1.map V.int)) ∧ L.length ≤ sizeLine ∧ ((∃ h, DT0 P w D L h) → Nx (upd H5 D (DTO P w D (putT L k c z)))) else Nx H3)
theorem dt_core {pins : List (Addr × Obj)} {s : Shared} {σ : L2.St} {H : Hp} {Q : VK} {ke ve tg it : Expr} {tests : List Expr} {sc : Scope} {own : List (Str × Nat)} {p1 p2 : Pos} {wi : TI} {g : TG} {tt : TT} {tk tv : TE} {use : Option (Value → Sem Unit)} {QV : Value → Shared → Prop}
    (hu : X.A.units < cLine) (hc : X.calm = true) (hN : X.N.Nodup) (I : Inv X pins σ H s) (hi : PI X tg it wi) (ok : BlkOk X.N X.env.scope sc own)
    (hg : ∀ (s : Shared) (H : Hp) (C : Addr) (cl : List (Str × Addr)) (fp : List Addr), PG (X.blk s H sc (compEnvC sc cl C X.env) fp) tg g)
    (ht : ∀ (s : Shared) (H : Hp) (C : Addr) (cl : List (Str × Addr)) (fp : List Addr), PTs (X.blk s H sc (compEnvC sc cl C X.env) fp) tests tt)
    (hk : ∀ (s : Shared) (H : Hp) (C : Addr) (cl : List (Str × Addr)) (fp : List Addr), PE (X.blk s H sc (compEnvC sc cl C X.env) fp) ke tk)
    (hv : ∀ (s : Shared) (H : Hp) (C : Addr) (cl : List (Str × Addr)) (fp : List Addr), PE (X.blk s H sc (compEnvC sc cl C X.env) fp) ve tv) (hfo : ∀ x, foldedSetIterable it X.env x = pure x)
    (h : tDt X.prog X.w X.K wi g tt tk tv (own.map (·.2)) σ H Q)
    (hend : ∀ D C s' m H', Inv X pins σ H' s' → Q (.ref D) H' → s'.heap.Ns C m → FpOk X pins H' C → compPost (model X.prog X.w) X.A X.xe use QV (.ref D) C (.ok .next) s') :
    wpAny (model X.prog X.w) X.A (comprehension (.DictComp ke ve [⟨tg, it, tests, 0⟩] sc p1) sc X.env p2 newDict false (eval it X.env) use) QV X.xe s := by
  have free : ∀ y ∈ sc.names, y.2 = .free → ∃ c, X.env.cells.lookup y.1 = some c := fun y hy e =>
    (ok.free y hy e).elim (fun k => I.ok.has _ (.inl k)) fun k => I.ok.has _ (.inr k)
  refine wpAny_comprehension_free (use := use) rfl hfo (closure_ok free) ok.kind (fun y hy e => by rw [ok.uniq y hy, e]) (thn (hi.run pins s σ H _ I h) fun xv s1 hx => thn hx fun itv s2 h2 => ?_)
  obtain ⟨a, fp, tn, J, H2, ea, I2, T, st2, f2, q⟩ := h2
  subst ea
  refine wpAny_newObj_type (newEnv_comp ?_)
  generalize hD : s2.heap.objs.size = D
  have freshD : H2 D = none := I2.hok.fresh (Nat.le_of_eq hD)
  obtain ⟨Z, ⟨m0, z0⟩, turn⟩ := q D freshD
  generalize hs3 : ({ s2 with heap := s2.heap.push { cls := .type "dict", data := .dict #[] } } : Shared) = s3
  have heap3 : s3.heap = s2.heap.push { cls := .type "dict", data := .dict #[] } := by subst hs3; rfl
  have I3 : Inv X pins σ (upd H2 D (DTO X.prog X.w D [])) s3 := by
    subst hs3
    refine I2.laid (t' := s2.toks) (fun b o e => Heap.get?_push_of_some _ e) (Nat.le_of_eq hD) ?_
    subst hD
    exact dto_new s2.heap I2.big
  have small : ∀ b ∈ fp, b < s2.heap.objs.size := fun b hb => by
    obtain ⟨o, e, _⟩ := T.obj _ _ st2 b hb
    exact Heap.lt_size e
  have f3 : ∀ b ∈ fp, FpOk X pins (upd H2 D (DTO X.prog X.w D [])) b ∧ b < s3.heap.objs.size := fun b hb => by
    have hl := small b hb
    refine ⟨⟨?_, (f2 b hb).2⟩, by rw [heap3, Heap.size_push]; exact Nat.lt_of_lt_of_le hl (Nat.le_succ _)⟩
    rw [upd_ne (by subst hD; exact Nat.ne_of_lt hl)]
    exact (f2 b hb).1
  have st3 : tn 0 s3.heap := T.keep _ _ _ st2 fun b _ o e => by rw [heap3]; exact Heap.get?_push_of_some _ e
  have I4 := block_start I3 ok hN f3
  show codeAny _ _ (.compStart (.DictComp ke ve [⟨tg, it, tests, 0⟩] sc p1) 0 (.ref a) (.ref D) (compEnvC sc (cellsFrom (s3.heap.objs.size + 1) sc.names (cloFrom X.env.cells sc.names [])) s3.heap.objs.size X.env)) (compPost (model X.prog X.w) X.A X.xe use QV (.ref D) s3.heap.objs.size) { s3 with heap := pushCells (s3.heap.push { cls := .type "dict", data := .dict #[] }) sc.names }
  generalize hcl : cellsFrom (s3.heap.objs.size + 1) sc.names (cloFrom X.env.cells sc.names []) = cl at I4 ⊢
  have jg := hg s3 (upd H2 D (DTO X.prog X.w D [])) s3.heap.objs.size cl fp
  have jt := ht s3 (upd H2 D (DTO X.prog X.w D [])) s3.heap.objs.size cl fp
  have jk := hk s3 (upd H2 D (DTO X.prog X.w D [])) s3.heap.objs.size cl fp
  have jv := hv s3 (upd H2 D (DTO X.prog X.w D [])) s3.heap.objs.size cl fp
  have noneFp : ∀ b ∈ fp, (upd H2 D (DTO X.prog X.w D [])) b = none := fun b hb => (f3 b hb).1.1
  generalize hce : compEnvC sc cl s3.heap.objs.size X.env = ce at I4 jg jt jk jv ⊢
  have locs : ce.locals = s3.heap.objs.size := by subst hce; rfl
  generalize hH3 : upd H2 D (DTO X.prog X.w D []) = H3 at I3 I4 jg jt jk jv z0 noneFp f3
  generalize hs4 : ({ s3 with heap := pushCells (s3.heap.push { cls := .type "dict", data := .dict #[] }) sc.names } : Shared) = s4 at I4 ⊢
  have st4 : tn 0 s4.heap := T.keep _ _ _ st3 fun b _ o e => by subst hs4; exact pushCells_keeps _ _ _ _ (Heap.get?_push_of_some _ e)
  have fpIn : ∀ {σ' : L2.St} {H' : Hp} {s' : Shared}, Inv (X.blk s3 H3 sc ce fp) [] σ' H' s' → (∀ b ∈ fp, H' b = none) → ∀ b ∈ fp, FpOk (X.blk s3 H3 sc ce fp) [] H' b := fun I' hn b hb =>
    ⟨hn b hb, (I'.ok.exf b hb).1, I'.ok.exfs b hb, .inl hb, fun x c e => (I'.ok.exf b hb).2 x c e, fun p hp => absurd (show p ∈ ([] : List (Addr × Obj)) ++ [] from hp) (by simp)⟩
  have loop : codeAny (model X.prog X.w) X.A (.compLoop (.DictComp ke ve [⟨tg, it, tests, 0⟩] sc p1) 0 (.ref a) (.ref D) ce) (compPost (model X.prog X.w) X.A X.xe use QV (.ref D) s3.heap.objs.size) s4 := by
    refine compLoop_anyD (fun n s' => ∃ i H', Inv (X.blk s3 H3 sc ce fp) [] (wipe σ (own.map (·.2))) H' s' ∧ tn i s'.heap ∧ (∀ b ∈ fp, H' b = none) ∧ Z i n H') ?_ m0 ⟨0, H3, I4, st4, noneFp, z0⟩
    rintro n s5 ⟨i, H5, I5, st5, n5, z5⟩
    rcases turn i n H5 z5 with ⟨stop, done⟩ | ⟨go, Nx, hNx, step⟩
    · refine thnF (T.done (X.blk s3 H3 sc ce fp) rfl rfl rfl hc i [] s5 _ H5 (fun _ _ => False) I5 (fpIn I5 n5) st5 stop) fun r s6 ⟨hr, I6⟩ => ?_
      subst hr
      have I7 : Inv X pins σ H5 s6 := I3.call' (ch := fp) I6.os I6.base I6.hok I6.bare fun b hb => ⟨(f3 b hb).1.2.2.2.1, (f3 b hb).1.2.1, (f3 b hb).1.2.2.2.2.1, (f3 b hb).1.2.2.2.2.2⟩
      have freeC : H5 s3.heap.objs.size = none := by
        rw [← locs]
        exact (show H5 ce.locals = none from I6.free)
      obtain ⟨m, hn, _⟩ := I6.loc
      have hn' : s6.heap.Ns ce.locals m := hn
      rw [locs] at hn'
      exact hend D s3.heap.objs.size s6 m H5 I7 done hn' (I3.fpOk (Nat.le_refl _) freeC)
    · refine thnF (T.item (X.blk s3 H3 sc ce fp) rfl rfl rfl hc i [] s5 _ H5 (fun _ _ => False) I5 (fpIn I5 n5) st5 go) fun r s6 ⟨u, hr, h6⟩ => ?_
      subst hr
      refine thnF h6 fun _ s7 ⟨x, H7, I7, r7, y7, st7, n7⟩ => ?_
      have J7 := I7.pinned (fpIn I7 n7) (T.obj _ _ st7)
      refine thnF (jg.run _ s7 _ H7 x u _ J7 r7 (step x H7 y7)) fun _ s8 ⟨σ8, H8, I8, w8, q8⟩ => ?_
      refine thnF (jt.run _ s8 σ8 H8 _ I8 q8) fun b s9 ⟨H9, I9, q9⟩ => ?_
      have again : ∀ {s' : Shared} {H' : Hp}, Inv (X.blk s3 H3 sc ce fp) ([] ++ pinsAt fp s7.heap) σ8 H' s' → Nx H' → ∃ m, m < n ∧ ∃ i H', Inv (X.blk s3 H3 sc ce fp) [] (wipe σ (own.map (·.2))) H' s' ∧ tn i s'.heap ∧ (∀ b ∈ fp, H' b = none) ∧ Z i m H' := fun {s' H'} I' nx => by
        obtain ⟨m', hm, z'⟩ := hNx H' nx
        have kept : ∀ b ∈ fp, ∀ o, s7.heap.get? b = some o → s'.heap.get? b = some o ∧ H' b = none := fun b hb o e => by
          have z := I'.pin (b, o) (List.mem_append_right _ (List.mem_append_right _ (mem_pinsAt hb e)))
          exact ⟨z.1, z.2.1⟩
        have len : (wipe σ (own.map (·.2))).length = σ8.length := by rw [← w8, wipe_length]
        refine ⟨m', hm, i + 1, H', (I'.unpinned (pins := [])).weak len (fun j v e => (wipe_some (by rw [w8]; exact e)).1), T.keep _ _ _ st7 fun b hb o e => (kept b hb o e).1, fun b hb => ?_, z'⟩
        obtain ⟨o, e, _⟩ := T.obj _ _ st7 b hb
        exact (kept b hb o e).2
      cases b with
      | false =>
        rw [if_neg Bool.false_ne_true] at q9
        show if false = true then _ else _
        rw [if_neg Bool.false_ne_true]
        exact again I9 q9
      | true =>
        rw [if_pos rfl] at q9
        show if true = true then _ else _
        rw [if_pos rfl]
        refine thnF (jk.run _ s9 σ8 H9 _ I9 q9) fun z s10 ⟨yk, H10, I10, r10, q10⟩ => ?_
        refine thnF (jv.run _ s10 σ8 H10 _ I10 q10) fun z2 s11 ⟨yv, H11, I11, r11, L, k, c, ek, sq, eD, hL, hz, nx⟩ => ?_
        subst ek
        cases r10
        exact dto_set (X := X.blk s3 H3 sc ce fp) hu I11 eD hL sq hz r11 fun s12 I12 => again I12 (nx ⟨_, (I11.hok D _ eD).1⟩)
  exact codeAny_compStart_dict loop (T.self X.A 0 _ _ _ st4 loop)
theorem pe_dt {ke ve tg it : Expr} {tests : List Expr} {sc : Scope} {own : List (Str × Nat)} {pos : Pos} {wi : TI} {g : TG} {tt : TT} {tk tv : TE} (hu : X.A.units < cLine) (hc : X.calm = true) (hN : X.N.Nodup) (hi : PI X tg it wi) (ok : BlkOk X.N X.env.scope sc own)
    (hg : ∀ (s : Shared) (H : Hp) (C : Addr) (cl : List (Str × Addr)) (fp : List Addr), PG (X.blk s H sc (compEnvC sc cl C X.env) fp) tg g)
    (ht : ∀ (s : Shared) (H : Hp) (C : Addr) (cl : List (Str × Addr)) (fp : List Addr), PTs (X.blk s H sc (compEnvC sc cl C X.env) fp) tests tt)
    (hk : ∀ (s : Shared) (H : Hp) (C : Addr) (cl : List (Str × Addr)) (fp : List Addr), PE (X.blk s H sc (compEnvC sc cl C X.env) fp) ke tk)
    (hv : ∀ (s : Shared) (H : Hp) (C : Addr) (cl : List (Str × Addr)) (fp : List Addr), PE (X.blk s H sc (compEnvC sc cl C X.env) fp) ve tv) (hfo : ∀ x, foldedSetIterable it X.env x = pure x := by intro _; rfl) :
    PE X (.DictComp ke ve [⟨tg, it, tests, 0⟩] sc pos) (tDt X.prog X.w X.K wi g tt tk tv (own.map (·.2))) := by
  refine ⟨fun pins s σ H Q I h => ?_⟩
  rw [arm_eval_DictComp]
  refine dt_core hu hc hN I hi ok hg ht hk hv hfo h fun D C s' m H' I' q hn f => ⟨m, hn, fun g' sb => ?_⟩
  obtain ⟨f0, f1, f2, f3, f4, f5⟩ := f
  exact ⟨.ref D, H', I'.turned (t' := s'.toks) (fun b o hb e => (sb.2 b hb).trans e) f0 f1 f3 f4 f5, rfl, q⟩
end
end DL
/-! DSd: sorted(set(..)), sorted({..: .. for ..}) by values: rows of ints. -/
namespace DL
open PySem PySem.Spec PyProof.Rows L2

def rowT (k : List Int) : PyData := .tuple (k.map .int)
def leR (a b : List Int) : Bool := decide (a ≤ b)
def addK (acc : List (List Int)) (k : List Int) : List (List Int) := if k ∈ acc then acc else acc ++ [k]
def dedup (ks : List (List Int)) : List (List Int) := ks.foldl addK []
def srtRows (ks : List (List Int)) : List (List Int) := (dedup ks).mergeSort leR
theorem mem_addK {acc : List (List Int)} {k x : List Int} : x ∈ addK acc k ↔ x ∈ acc ∨ x = k := by
  unfold addK
  split
  · rename_i h
    exact ⟨.inl, fun z => z.elim id fun e => by rw [e]; exact h⟩
  · simp
theorem nodup_addK {acc : List (List Int)} {k : List Int} (h : acc.Nodup) : (addK acc k).Nodup := by
  unfold addK
  split
  · exact h
  · rename_i hn
    rw [List.nodup_append]
    refine ⟨h, by simp, fun a ha b hb e => ?_⟩
    rw [List.mem_singleton] at hb
    subst hb
    exact hn (e ▸ ha)
theorem foldl_addK : ∀ (ks acc : List (List Int)), acc.Nodup → (ks.foldl addK acc).Nodup ∧ ∀ x, x ∈ ks.foldl addK acc ↔ x ∈ acc ∨ x ∈ ks
  | [], acc, h => ⟨h, by simp⟩
  | k :: ks, acc, h => by
    obtain ⟨h1, h2⟩ := foldl_addK ks (addK acc k) (nodup_addK h)
    refine ⟨h1, fun x => ?_⟩
    rw [List.foldl_cons, h2, mem_addK, List.mem_cons]
    exact or_assoc
theorem dedup_nodup (ks : List (List Int)) : (dedup ks).Nodup := (foldl_addK ks [] (by simp)).1
theorem mem_dedup (ks : List (List Int)) (x : List Int) : x ∈ dedup ks ↔ x ∈ ks := by
  have h := (foldl_addK ks [] (by simp)).2 x
  exact h.trans ⟨fun z => z.elim (fun y => by cases y) id, .inr⟩
theorem leR_trans (a b c : List Int) : leR a b = true → leR b c = true → leR a c = true := by
  unfold leR
  simp only [decide_eq_true_eq]
  exact List.le_trans
theorem leR_total (a b : List Int) : (leR a b || leR b a) = true := by
  unfold leR
  simp only [Bool.or_eq_true, decide_eq_true_eq]
  exact List.le_total a b
theorem leR_antisymm (a b : List Int) : leR a b = true → leR b a = true → a = b := by
  unfold leR
  simp only [decide_eq_true_eq]
  exact List.le_antisymm
theorem srt_of {l ks : List (List Int)} (hn : l.Nodup) (hm : ∀ k, k ∈ l ↔ k ∈ ks) : l.mergeSort leR = srtRows ks := by
  have hp : l.Perm (dedup ks) := (List.perm_ext_iff_of_nodup hn (dedup_nodup ks)).mpr fun x => (hm x).trans (mem_dedup ks x).symm
  refine List.Perm.eq_of_pairwise (le := fun a b => leR a b = true) (fun a b _ _ => leR_antisymm a b) (List.pairwise_mergeSort leR_trans leR_total l) (List.pairwise_mergeSort leR_trans leR_total _) ?_
  exact (List.mergeSort_perm l leR).trans (hp.trans (List.mergeSort_perm _ leR).symm)
theorem dataLe_tup (p q : Addr × List Int) : PySem.W.dataLe false encT p q = leR p.2 q.2 := by
  rw [PySem.W.dataLe_eq]
  show (!PySem.W.dataLt (.tuple _) (.tuple _)) = _
  rw [PySem.W.dataLt_tuple]
  show (!PySem.W.rowLt (q.2.map .int) (p.2.map .int)) = _
  rw [PySem.W.dataLt_ints]
  unfold leR
  by_cases h : q.2 < p.2
  · have h2 : ¬ p.2 ≤ q.2 := fun z => List.not_lt.mpr z h
    simp [h, h2]
  · have h2 : p.2 ≤ q.2 := List.not_lt.mp h
    simp [h, h2]
theorem sort_snd (l : KsT) : (l.mergeSort (PySem.W.dataLe false encT)).map (·.2) = (l.map (·.2)).mergeSort leR := List.map_mergeSort fun a _ b _ => dataLe_tup a b

/-! ### rows as data -/
def rowD : PyData → Option (List Int)
  | .tuple xs => match intsD xs with
    | some (i :: r) => some (i :: r)
    | _ => none
  | _ => none
def rowsD : List PyData → Option (List (List Int))
  | [] => some []
  | x :: r => match rowD x, rowsD r with
    | some k, some ks => some (k :: ks)
    | _, _ => none
theorem intsD_eq : ∀ {xs : List PyData} {ns : List Int}, intsD xs = some ns → xs = ns.map .int
  | [], ns, e => by cases e; rfl
  | x :: xs, ns, e => by
    cases x <;> try cases e
    rename_i i
    have e' : (intsD xs).map (i :: ·) = some ns := e
    cases e1 : intsD xs with
    | none => rw [e1] at e'; cases e'
    | some zs =>
      rw [e1] at e'
      cases e'
      rw [intsD_eq e1]
      rfl
theorem rowD_eq {x : PyData} {k : List Int} (e : rowD x = some k) : x = rowT k ∧ k ≠ [] := by
  unfold rowD at e
  split at e
  · split at e
    · rename_i e1
      cases e
      exact ⟨by rw [intsD_eq e1]; rfl, by simp⟩
    · cases e
  · cases e
@[simp] theorem rowD_row (i : Int) (r : List Int) : rowD (rowT (i :: r)) = some (i :: r) := by
  show (match intsD ((i :: r).map .int) with | some (i :: r) => some (i :: r) | _ => none) = _
  rw [intsD_map]
theorem rowsD_rows : ∀ ks : List (List Int), (∀ k ∈ ks, k ≠ []) → rowsD (ks.map rowT) = some ks
  | [], _ => rfl
  | k :: ks, h => by
    cases k with
    | nil => exact absurd rfl (h [] (by simp))
    | cons i r =>
      show (match rowD (rowT (i :: r)), rowsD (ks.map rowT) with | some k, some ks => some (k :: ks) | _, _ => none) = _
      rw [rowD_row, rowsD_rows ks fun k hk => h k (by simp [hk])]
section
variable {K : PySem.W.Frag} {H : Hp} {μ : List Addr}
theorem isP_sqT {b : Addr} {k : List Int} (r : IsP K H μ (.ref b) (rowT k)) : SqT K H b (k.map V.int) := by
  obtain ⟨a, vs, e, q, p⟩ := tup_at (y := V.ref b) (xs := k.map .int) (show IsV K H μ (.ref b) (.d (.tuple (k.map .int))) from r)
  cases e
  rw [intsD_ps p (intsD_map k)] at q
  exact q
theorem isP_ref {v : V} {xs : List PyData} (r : IsP K H μ v (.tuple xs)) : ∃ b, v = .ref b := by
  cases r with
  | tup f h => exact ⟨_, rfl⟩
  | tupK f h => exact ⟨_, rfl⟩
theorem rows_refs : ∀ {vs : List V} {xs : List PyData} {rs : List (List Int)}, IsPs K H μ vs xs → rowsD xs = some rs → ∃ ks : KsT, vs = ks.map (fun p => V.ref p.1) ∧ ks.map (·.2) = rs ∧ ∀ p ∈ ks, IsP K H μ (.ref p.1) (rowT p.2) ∧ p.2 ≠ []
  | _, [], rs, .nil, e => by cases e; exact ⟨[], rfl, rfl, by simp⟩
  | _, x :: xs, rs, .cons a b, e => by
    have e' : (match rowD x, rowsD xs with | some k, some ks => some (k :: ks) | _, _ => none) = some rs := e
    cases e1 : rowD x with
    | none => rw [e1] at e'; cases e'
    | some k =>
      cases e2 : rowsD xs with
      | none => rw [e1, e2] at e'; cases e'
      | some zs =>
        rw [e1, e2] at e'
        cases e'
        obtain ⟨ks, h1, h2, h3⟩ := rows_refs b e2
        obtain ⟨ex, hk⟩ := rowD_eq e1
        subst ex
        obtain ⟨c, rfl⟩ := isP_ref a
        refine ⟨(c, k) :: ks, by rw [h1]; rfl, by rw [← h2]; rfl, fun p hp => ?_⟩
        rcases List.mem_cons.mp hp with z | z
        · rw [z]; exact ⟨a, hk⟩
        · exact h3 p z
theorem refs_rows : ∀ {ks : KsT}, (∀ p ∈ ks, IsP K H μ (.ref p.1) (rowT p.2)) → IsPs K H μ (ks.map fun p => V.ref p.1) ((ks.map (·.2)).map rowT)
  | [], _ => .nil
  | p :: ks, h => .cons (h p (by simp)) (refs_rows fun q hq => h q (by simp [hq]))
end

/-! ### the calls -/
section
variable {X : Cx} {T : List (Addr × Str)}
def rSetAny (K : PySem.W.Frag) (P : Program) (w : World) : List V → Hp → VK → Prop := fun xs H Q => ∃ (l : Addr) (ks : KsT), xs = [V.ref l] ∧ (SqL K H l (ks.map fun p => V.ref p.1) ∨ SqT K H l (ks.map fun p => V.ref p.1)) ∧ (∀ p ∈ ks, SqT K H p.1 (p.2.map V.int)) ∧ ks.length < 64 ∧
  ∀ a L, H a = none → (∀ p ∈ L, p ∈ ks) → (∀ p ∈ ks, p.2 ∈ L.map (·.2)) → Q (.ref a) (upd H a (SetTO P w a L))
theorem cr_setAny (hc : X.calm = true) (hu : X.A.units + 64 < cLine) : CallR X (.type "set") (rSetAny X.K X.prog X.w) := by
  intro pins s σ H xs us Q I r h
  obtain ⟨l, ks, rfl, hl, hk, hf, q⟩ := h
  rcases hl with hl | hl
  · exact cr_setOfT hc hu pins s σ H _ us Q I r ⟨l, ks, rfl, hl, hk, hf, q⟩
  · rw [Vals.ref1 r]
    obtain ⟨its, rv, pl, hz⟩ := I.tuple hl
    obtain ⟨o, ho, hcl, n, hd⟩ := pl
    refine set_of_tup (P := X.prog) (w := X.w) ks (I.ok.hd hc) ⟨o, ho, hcl, n, hd⟩ (by simpa using refs_of_vals rv) (fun p hp => I.isT (hk p hp)) hf (by omega) fun g tk L es ep t R got kp => ?_
    refine ⟨.ref s.heap.objs.size, upd H s.heap.objs.size (SetTO X.prog X.w s.heap.objs.size L), I.laid (t' := tk) kp (Nat.le_refl _) (setTO_new R.t0), rfl, q _ L (I.hok.fresh (Nat.le_refl _)) (fun p hp => List.mem_of_mem_take (got.sub p hp)) fun p hp => got.all p ?_⟩
    rw [List.take_length]
    exact hp
/-- what a sort of refs lays -/
theorem laid_refs {pins : List (Addr × Obj)} {σ : L2.St} {H : Hp} {s s' : Shared} {p : Addr} {c : Nat} {Q : VK} (bs : KsT) (I : Inv X pins σ H s) (k : ∀ b o, s.heap.get? b = some o → s'.heap.get? b = some o) (g : s'.gens = s.gens) (o : s'.os = s.os) (hp : s.heap.objs.size ≤ p)
    (hg : s'.heap.get? p = some (seqObj "list" (bs.map fun q => Value.ref q.1).toArray c)) (hz : bs.length ≤ sizeLine) (q : H p = none → Q (.ref p) (upd H p (.lst (bs.map fun q => V.ref q.1)))) : EP X pins σ Q (.ref p) s' := by
  have hn : H p = none := I.hok.fresh hp
  have J : Inv X pins σ (upd H p (.lst (bs.map fun q => V.ref q.1))) { s with heap := s'.heap, gens := s'.gens, drawn := s'.drawn, toks := s'.toks } :=
    I.call (ch := []) (Un.laid k hp hn) (I.hok.laid k hp ⟨by rw [List.length_map]; exact hz, bs.map fun q => Value.ref q.1, c, vals_of_refs bs, hg⟩) (by rw [g]; exact I.bare) (fun _ z => nomatch z)
  have e : s' = { s with heap := s'.heap, gens := s'.gens, drawn := s'.drawn, toks := s'.toks } := by
    cases s'
    cases s
    cases o
    rfl
  rw [e]
  exact ⟨.ref p, _, J, rfl, q hn⟩
def rSortSet (K : PySem.W.Frag) (P : Program) (w : World) : List V → Hp → VK → Prop := fun vs H Q => ∃ (a : Addr) (L : KsT), vs = [V.ref a] ∧ H a = some (SetTO P w a L) ∧ (∀ p ∈ L, SqT K H p.1 (p.2.map V.int)) ∧ (∀ p ∈ L, p.2 ≠ []) ∧
  ∀ (L1 : KsT) (p : Addr), L1.Perm L → (L.map (·.2)).Nodup → H p = none → Q (.ref p) (upd H p (.lst ((L1.mergeSort (PySem.W.dataLe false encT)).map fun q => V.ref q.1)))
theorem cr_sortSet (hc : X.calm = true) (hu : X.A.units + 64 < cLine) : CallR X (.builtin "sorted") (rSortSet X.K X.prog X.w) := by
  intro pins s σ H vs us Q I r h
  obtain ⟨a, L, rfl, ha, hk, hne, q⟩ := h
  have R0 : SetT0 X.prog X.w s.heap a L := (I.hok a _ ha).1
  obtain ⟨es, ep, t, R⟩ := R0.full fun p hp => I.isT (hk p hp)
  rw [Vals.ref1 r]
  refine sort_setAny R (I.ok.hd hc) hne (by omega) fun s' p c L1 k g o hp pm hg => ?_
  refine laid_refs (L1.mergeSort (PySem.W.dataLe false encT)) I k g o hp hg ?_ fun hn => q L1 p pm R.nd hn
  have := R.few
  rw [List.length_mergeSort, pm.length_eq, sizeLine_eq]
  omega
def rSortDct (K : PySem.W.Frag) (P : Program) (w : World) : List V → Hp → VK → Prop := fun vs H Q => ∃ (a : Addr) (L : KeT), vs = [V.ref a] ∧ H a = some (DTO P w a L) ∧ (∀ p ∈ L, SqT K H p.2.1 (p.1.map V.int)) ∧ (∀ p ∈ L, p.1 ≠ []) ∧ L.length ≤ sizeLine ∧
  ∀ (p : Addr), H p = none → Q (.ref p) (upd H p (.lst (((L.map fun p => (p.2.1, p.1)).mergeSort (PySem.W.dataLe false encT)).map fun q => V.ref q.1)))
theorem cr_sortDct (hc : X.calm = true) (hu : X.A.units + 64 < cLine) : CallR X (.builtin "sorted") (rSortDct X.K X.prog X.w) := by
  intro pins s σ H vs us Q I r h
  obtain ⟨a, L, rfl, ha, hk, hne, hz, q⟩ := h
  obtain ⟨lo, xs, o, es, ep, rr, e1, e2, e3, e4, e5⟩ := (I.hok a _ ha).1
  rw [Vals.ref1 r]
  have l1 : es.size = xs.length := size_of_entries e4
  have l2 : L.length = xs.length := paired_len rr
  refine Calls.call_function_entry kind_sorted plain_sorted entry_sorted (args_sorted1 _) ?_
  unfold Builtin.«sorted»
  refine wpAny_bind (m := checkCount "sorted" 1 1 _) (wpAny_pure ?_)
  refine wpAny_bind (PySem.W.kdu_collect (A := X.A.in1) (kdl_raw lo e2 e3) (I.ok.hd hc) e1 (by omega) fun g tk acc kp it => ?_)
  have lr : ∀ {L : KeT} {xs : KeV}, KRel L xs → (L.map fun p => ((p.2.1, p.1) : Addr × List Int)) = xs.map fun x => (x.2.1, x.1) := by
    intro L xs r
    induction r with
    | nil => rfl
    | cons h t ih => rw [List.map_cons, List.map_cons, ih, h.1, h.2.1]
  have ea : acc.toList = (L.map fun p => ((p.2.1, p.1) : Addr × List Int)).map fun q => Value.ref q.1 := by
    rw [lr rr, List.map_map]
    have hl : acc.toList.length = xs.length := by rw [Array.length_toList, it.1]; exact l1
    refine List.ext_getElem? fun j => ?_
    by_cases hj : j < xs.length
    · have hj2 : j < acc.toList.length := by omega
      have hv := List.getElem?_eq_getElem hj2
      obtain ⟨en, hen, hv2⟩ := it.2 j _ (by rw [← Array.getElem?_toList]; exact hv)
      have qe := entry_at e4 j
      rw [hen, List.getElem?_eq_getElem hj] at qe
      have e2 : en = entryOfKey (tupleKind (intKind X.prog X.w)) xs[j] := Option.some.inj qe
      rw [hv, List.getElem?_map, List.getElem?_eq_getElem hj, hv2, e2]
      rfl
    · rw [List.getElem?_eq_none (by omega), List.getElem?_eq_none (by rw [List.length_map]; omega)]
  rw [ea]
  refine wpAny_bind (wpAny_newList ?_ (by rw [List.length_map, List.length_map]; exact hz))
  have hu1 : X.A.in1.units = X.A.units + 1 := rfl
  have hT : ∀ q ∈ L.map (fun p => ((p.2.1, p.1) : Addr × List Int)), IsT X.prog X.w g q.2 q.1 := fun q hq => by
    obtain ⟨p, hp, rfl⟩ := List.mem_map.mp hq
    exact isT_keep (I.isT (hk p hp)) kp
  refine wpAny_bind (wpAny_holding (sort_new (s := { s with heap := g, toks := tk }) (P := X.prog) (w := X.w) _ hT (fun q hq => ?_) (by rw [List.length_map]; exact hz) (by omega) fun g2 c kp2 hg => ?_))
  · obtain ⟨p, hp, rfl⟩ := List.mem_map.mp hq
    exact hne p hp
  · have I1 : Inv X pins σ H { s with heap := g, toks := tk } := I.kept kp
    exact wpAny_pure ⟨_, rfl, laid_refs (s := { s with heap := g, toks := tk }) (s' := { s with heap := g2, toks := tk }) _ I1 (fun b u e => kp2 b u e) rfl rfl (Nat.le_refl _) hg (by rw [List.length_mergeSort, List.length_map]; exact hz) fun hn => q _ hn⟩
end
end DL
/-! DSe: the same as programs. -/
namespace DL
open PySem PySem.Spec PyProof.Rows L2

def srtSetF (fz : Bool) : UnF := fun v G => match (seqOf G v).bind rowsD with
  | some ks => if ks.length < 64 then newO fz ((srtRows ks).map rowT) G else none
  | none => none
theorem kst_map (L : KeT) : (L.map fun p => ((p.2.1, p.1) : Addr × List Int)).map (·.2) = L.map (·.1) := by rw [List.map_map]; rfl
theorem putT_keys (L : KeT) (k : List Int) (b : Addr) (v : V) : (putT L k b v).map (·.1) = addK (L.map (·.1)) k := by
  unfold putT addK
  have e : (L.any fun p => decide (p.1 = k)) = decide (k ∈ L.map (·.1)) := by
    rw [Bool.eq_iff_iff, List.any_eq_true]
    simp only [decide_eq_true_eq, List.mem_map]
  rw [e]
  by_cases h : k ∈ L.map (·.1)
  · rw [if_pos (by simpa using h), if_pos h, List.map_map]
    refine List.map_congr_left fun p _ => ?_
    show (if p.1 = k then (p.1, p.2.1, v) else p).1 = p.1
    split <;> rfl
  · rw [if_neg (by simpa using h), if_neg h, List.map_append]
    rfl
theorem putT_mem {L : KeT} {k : List Int} {b : Addr} {v : V} : ∀ p ∈ putT L k b v, (p.1 = k ∧ p.2.1 = b) ∨ ∃ q ∈ L, q.1 = p.1 ∧ q.2.1 = p.2.1 := by
  intro p hp
  unfold putT at hp
  split at hp
  · obtain ⟨q, hq, e⟩ := List.mem_map.mp hp
    refine .inr ⟨q, hq, ?_⟩
    rw [← e]
    split <;> exact ⟨rfl, rfl⟩
  · rcases List.mem_append.mp hp with z | z
    · exact .inr ⟨p, z, rfl, rfl⟩
    · rw [List.mem_singleton.mp z]; exact .inl ⟨rfl, rfl⟩
theorem addK_len (acc : List (List Int)) (k : List Int) : (addK acc k).length ≤ acc.length + 1 := by
  unfold addK
  split
  · omega
  · simp
/-- the code's table tells nothing of such a dict -/
theorem tabs_soft {P : Program} {w : World} {T : List (Addr × Str)} {H : Hp} {D : Addr} {L : KeT} {o : HO} (h : H D = some (DTO P w D L)) (real : ∃ g, DT0 P w D L g) (t : LamX.Tabs T H) : LamX.Tabs T (upd H D o) := fun p hp => by
  obtain ⟨ps, h1, h2, h3⟩ := t p hp
  refine ⟨ps, by rw [upd_ne (ne_of h1 h (by intro z; cases z))]; exact h1, h2, fun pos cv hc => ?_⟩
  obtain ⟨c, e1, e2⟩ := h3 pos cv hc
  refine ⟨c, e1, ?_⟩
  by_cases z : c = D
  · subst z
    rw [h] at e2
    injection e2 with e2
    unfold DTO LamX.CodeO at e2
    injection e2 with e2
    obtain ⟨g, hg⟩ := real
    rw [e2] at hg
    have hg' : DT0 P w c L g := by rw [e2]; exact hg
    obtain ⟨_, xs, ob, es, ep, _, q1, _, q2, _⟩ := hg'
    obtain ⟨oc, vs, tk, y1, y2, _⟩ := hg
    rw [q1] at y1
    cases y1
    rw [q2] at y2
    cases y2
  · rw [upd_ne z]; exact e2
theorem GR.soft {P : Program} {w : World} {K : PySem.W.Frag} {T : List (Addr × Str)} {H : Hp} {μ : List Addr} {G : Ms} {D : Addr} {L L' : KeT} (g : GR K T H μ G) (h : H D = some (DTO P w D L)) (real : ∃ x, DT0 P w D L x) : GR K T (upd H D (DTO P w D L')) μ G := by
  refine ⟨g.nd, g.len, fun i a u e1 e2 => ?_, tabs_soft h real g.tabs⟩
  have hne : a ≠ D := fun z => by
    obtain ⟨vs, e⟩ := g.is (List.mem_of_getElem? e1)
    rw [z, h] at e
    cases e
  have m := g.at_ i a u e1 e2
  cases u with
  | lst ds =>
    obtain ⟨vs, q1, q2⟩ := m
    exact ⟨vs, by rw [upd_ne hne]; exact q1, IsPs.soft h q2⟩

section open Classical
/-- the keys of {e: v for t in ..}, one after the other -/
noncomputable def dkN (t : TM) (e v : EM) (s : Src) (dw : Sl) : List PyData → List (List Int) → Ms → ER (List (List Int))
  | [], acc, G => if s.ok G then .ok acc G else .bad
  | x :: r, acc, G => if s.ok G then (match t (.d x) dw G with
      | none => .bad
      | some p => match e p.1 p.2 with
        | .ok (.d y) G1 => (match v p.1 G1 with
          | .ok (.d _) G2 => (match rowD y with
            | some k => if acc.length < sizeLine ∧ G2.length = G.length then dkN t e v s dw r (addK acc k) G2 else .bad
            | none => .bad)
          | _ => .bad)
        | _ => .bad) else .bad
end
noncomputable def srtDctE (fz : Bool) (vs : List Nat) (im : IM) (t : TM) (e v : EM) : EM := fun ds G => (im ds G).bind fun p G1 => (dkN t e v p.2 (wipeD ds vs) p.1 [] G1).bind fun ks G2 => newL fz ((ks.mergeSort leR).map rowT) G2
theorem newL_newO {fz : Bool} {xs : List PyData} {G : Ms} : newL fz xs G = liftO (newO fz xs G) := by
  unfold newL newO
  split <;> rfl
section
variable {X : Cx} {T : List (Addr × Str)} {W : WX} {pos pos2 p p2 : Pos} {e a b c : Expr} {es : List Expr} {ma mb mc : EM} {m : AM} {fz : Bool}
/-- sorted(set(x)) -/
theorem d_srtSet (hc : X.calm = true) (hu : X.A.units + 64 < cLine) (hg : Gl X "sorted") (hm : X.mg "sorted" = none) (hg2 : Gl X "set") (hm2 : X.mg "set" = none) (ha : PE X a (tE X.K X.mg T W ma))
    (hs1 : starEach [a] X.env = (false, eval a X.env) :: starEach [] X.env := by rfl)
    (hs2 : starEach [.Call (.Name "set" p2) [a] [] pos2] X.env = (false, eval (.Call (.Name "set" p2) [a] [] pos2) X.env) :: starEach [] X.env := by rfl)
    (hb1 : bootBuiltins "set" = some (.type "set") := by first | rfl | decide +kernel) (hb2 : bootBuiltins "sorted" = some (.builtin "sorted") := by first | rfl | decide +kernel) :
    PE X (.Call (.Name "sorted" p) [.Call (.Name "set" p2) [a] [] pos2] [] pos) (tE X.K X.mg T W (unE (srtSetF fz) ma)) :=
  pe_weak (pe_callB (cr_sortSet hc hu) hg hm hb2 (pa_cons (pe_callTy (cr_setAny hc hu) hg2 hm2 hb1 (pa_cons ha pa_nil hs1) (by decide) (by decide) hs1 rfl) pa_nil hs2) (by decide) (by decide) hs2 rfl) fun σ H Q h => by
    refine (tG.bind (R := RV X.K) (f := fun v ds G1 => liftO (srtSetF fz v G1)) h).mono ?_
    rintro x H1 ⟨μ1, ds, v, G1, hs, g1, r1, pp⟩
    obtain ⟨w, G', e, o⟩ := out_of pp
    unfold srtSetF at e
    split at e
    · rename_i rs e1
      split at e
      · rename_i h64
        obtain ⟨xs, f1, f2⟩ := Option.bind_eq_some_iff.mp e1
        obtain ⟨l, vs, rfl, q, ps⟩ := seq_at r1 g1 f1
        obtain ⟨ks, rfl, k2, k3⟩ := rows_refs ps f2
        refine ⟨l, ks, rfl, q, fun y hy => isP_sqT (k3 y hy).1, by rw [← k2, List.length_map] at h64; exact h64, fun D L hD hL hL2 => ?_⟩
        have s : Step μ1 H1 μ1 (upd H1 D (SetTO X.prog X.w D L)) := .fresh hD
        refine ⟨D, L, rfl, upd_same, fun y hy => isP_sqT (IsP.mono s (k3 y (hL y hy)).1), fun y hy => (k3 y (hL y hy)).2, fun L1 p hp hn hfresh => ?_⟩
        have st := s.trans (Step.fresh (o := HO.lst []) hfresh)
        have key : (L1.mergeSort (PySem.W.dataLe false encT)).map (·.2) = srtRows rs := by
          rw [sort_snd]
          refine srt_of ((hp.map (·.2)).nodup_iff.mpr hn) fun k => ?_
          rw [(hp.map (·.2)).mem_iff, ← k2, List.mem_map, List.mem_map]
          constructor
          · rintro ⟨y, hy, rfl⟩
            exact ⟨y, hL y hy, rfl⟩
          · rintro ⟨y, hy, rfl⟩
            exact List.mem_map.mp (hL2 y hy)
        have ip : IsPs X.K (upd H1 D (SetTO X.prog X.w D L)) μ1 ((L1.mergeSort (PySem.W.dataLe false encT)).map fun q => V.ref q.1) ((srtRows rs).map rowT) := by
          rw [← key]
          exact refs_rows fun y hy => IsP.mono s (k3 y (hL y (hp.mem_iff.mp (List.mem_mergeSort.mp hy)))).1
        exact out_new (fun z H' μ' s' r' g' => o z H' μ' (s.trans s') r' g') e (g1.fresh hD) ip hfresh
      · cases e
    · cases e
theorem d_srtDct {elt val tg it : Expr} {sc : Scope} {own : List (Str × Nat)} {g : TG} {t : TM} {im : IM} {mv : EM} (hc : X.calm = true) (hu : X.A.units + 64 < cLine) (hN : X.N.Nodup) (hg : Gl X "sorted") (hm : X.mg "sorted" = none) (hi : PI X tg it (tI X.K X.mg T W im)) (ok : BlkOk X.N X.env.scope sc own)
    (hgt : ∀ (s : Shared) (H : Hp) (C : Addr) (cl : List (Str × Addr)) (fp : List Addr), PG (X.blk s H sc (compEnvC sc cl C X.env) fp) tg g) (cg : CG X.K T (own.map (·.2)) g t)
    (he : ∀ (s : Shared) (H : Hp) (C : Addr) (cl : List (Str × Addr)) (fp : List Addr), PE (X.blk s H sc (compEnvC sc cl C X.env) fp) elt (tE X.K X.mg T W0 ma))
    (hv : ∀ (s : Shared) (H : Hp) (C : Addr) (cl : List (Str × Addr)) (fp : List Addr), PE (X.blk s H sc (compEnvC sc cl C X.env) fp) val (tE X.K X.mg T W0 mv)) (hfo : ∀ x, foldedSetIterable it X.env x = pure x := by intro _; rfl)
    (hs2 : starEach [.DictComp elt val [⟨tg, it, [], 0⟩] sc pos2] X.env = (false, eval (.DictComp elt val [⟨tg, it, [], 0⟩] sc pos2) X.env) :: starEach [] X.env := by rfl)
    (hb2 : bootBuiltins "sorted" = some (.builtin "sorted") := by first | rfl | decide +kernel) :
    PE X (.Call (.Name "sorted" p) [.DictComp elt val [⟨tg, it, [], 0⟩] sc pos2] [] pos) (tE X.K X.mg T W (srtDctE fz (own.map (·.2)) im t ma mv)) :=
  pe_weak (pe_callB (cr_sortDct hc hu) hg hm hb2 (pa_cons (pe_dt (tt := tB X.K X.mg T W0 yesB) (by omega) hc hN hi ok hgt (fun s H C cl fp => pts_yes (T := T) (W := W0)) he hv hfo) pa_nil hs2) (by decide) (by decide) hs2 rfl) fun σ H Q h => by
    refine (tG.bind (R := RI X.K T) (f := fun p ds G1 => (dkN t ma mv p.2 (wipeD ds (own.map (·.2))) p.1 [] G1).bind fun ks G2 => newL fz ((ks.mergeSort leR).map rowT) G2) h).mono ?_
    rintro J H1 ⟨μ1, ds, ⟨xs, s⟩, G1, hs1, g1, wk, pp⟩ D hD
    have hsw := hs1.wipe (own.map (·.2))
    generalize own.map (·.2) = vs at *
    refine ⟨fun i m H => m = xs.length - i ∧ i ≤ xs.length ∧ ∃ (L : KeT) (G : Ms), H D = some (DTO X.prog X.w D L) ∧ D ∉ μ1 ∧ Step μ1 H1 μ1 H ∧ GR X.K T H μ1 G ∧ (∀ q ∈ L, IsP X.K H μ1 (.ref q.2.1) (rowT q.1) ∧ q.1 ≠ []) ∧ L.length ≤ sizeLine ∧
        Post X.K X.mg T (RV X.K) W σ μ1 H1 Q ((dkN t ma mv s (wipeD ds vs) (xs.drop i) (L.map (·.1)) G).bind fun ks G2 => newL fz ((ks.mergeSort leR).map rowT) G2),
      ⟨xs.length, by simp, Nat.zero_le _, [], G1, upd_same, g1.notin hD, .fresh hD, g1.fresh hD, by simp, Nat.zero_le _, by simpa using pp⟩, ?_⟩
    rintro i m H2 ⟨rfl, hi2, L, G2, eD, nD, s2, g2, hL, hz, p2⟩
    by_cases hlt : i < xs.length
    · rw [List.drop_eq_getElem_cons hlt] at p2
      unfold dkN at p2
      by_cases okk : s.ok G2
      · rw [if_pos okk] at p2
        refine .inr ⟨wk.go H2 _ _ i s2 g2 okk hlt, fun H' => ∃ (L : KeT) (G : Ms), H' D = some (DTO X.prog X.w D L) ∧ D ∉ μ1 ∧ Step μ1 H1 μ1 H' ∧ GR X.K T H' μ1 G ∧ (∀ q ∈ L, IsP X.K H' μ1 (.ref q.2.1) (rowT q.1) ∧ q.1 ≠ []) ∧ L.length ≤ sizeLine ∧
          Post X.K X.mg T (RV X.K) W σ μ1 H1 Q ((dkN t ma mv s (wipeD ds vs) (xs.drop (i + 1)) (L.map (·.1)) G).bind fun ks G2 => newL fz ((ks.mergeSort leR).map rowT) G2), fun H' q => ⟨xs.length - (i + 1), by omega, rfl, hlt, q⟩, fun y H3 hy => ?_⟩
        obtain ⟨s3, g3, d, hd, r⟩ := wk.yld H2 _ _ i y H3 s2 g2 okk hlt hy
        have ed : d = xs[i] := by rw [List.getElem?_eq_getElem hlt] at hd; exact (Option.some.inj hd).symm
        subst ed
        cases et : t (.d xs[i]) (wipeD ds vs) G2 with
        | none => rw [et] at p2; exact p2.elim
        | some q =>
          obtain ⟨q1, q2⟩ := q
          rw [et] at p2
          obtain ⟨σ4, hq, hs4, eg, ew⟩ := cg y (.d xs[i]) (wipe σ vs) (wipeD ds vs) H3 μ1 _ q1 q2 r (hsw.mono (s2.trans s3)) et
          subst eg
          refine hq _ ⟨ew.trans (wipe_idem σ vs), ?_⟩
          simp only at p2
          refine ⟨μ1, q1, _, hs4, g3, ?_⟩
          rintro b H4 μ4 s4 rfl g4
          rw [if_pos rfl]
          refine ⟨μ4, q1, _, hs4.mono s4, g4, ?_⟩
          cases ee : ma q1 q2 with
          | bad => rw [ee] at p2; exact p2.elim
          | exn x Gx => rw [ee] at p2; exact p2.elim
          | ok z G5 =>
            rw [ee] at p2
            cases z with
            | fn a => exact p2.elim
            | mr n => exact p2.elim
            | scr ns => exact p2.elim
            | d y0 =>
              simp only at p2
              rintro yk H5 μ5 s5 r5 g5
              refine ⟨μ5, q1, _, (hs4.mono s4).mono s5, g5, ?_⟩
              cases ev : mv q1 G5 with
              | bad => rw [ev] at p2; exact p2.elim
              | exn x Gx => rw [ev] at p2; exact p2.elim
              | ok z2 G6 =>
                rw [ev] at p2
                cases z2 with
                | fn a => exact p2.elim
                | mr n => exact p2.elim
                | scr ns => exact p2.elim
                | d y1 =>
                  simp only at p2
                  cases ek : rowD y0 with
                  | none => rw [ek] at p2; exact p2.elim
                  | some k =>
                    rw [ek] at p2
                    simp only at p2
                    split at p2
                    · rename_i hzz
                      rintro yv H6 μ6 s6 r6 g6
                      have sb := (s4.trans s5).trans s6
                      have em : μ6 = μ1 := by
                        refine (sb.pre.eq_of_length ?_).symm
                        rw [g6.len, hzz.2, g3.len]
                      subst em
                      obtain ⟨ex, hk⟩ := rowD_eq ek
                      subst ex
                      obtain ⟨c, rfl⟩ := isP_ref (show IsP X.K H5 μ5 yk (.tuple (k.map .int)) from r5)
                      have st := s3.trans sb
                      have eD6 := st.keep D _ nD eD trivial
                      have rc : IsP X.K H6 μ6 (.ref c) (rowT k) := IsP.mono s6 r5
                      have hL6 : ∀ q ∈ L, IsP X.K H6 μ6 (.ref q.2.1) (rowT q.1) ∧ q.1 ≠ [] := fun q hq => ⟨IsP.mono st (hL q hq).1, (hL q hq).2⟩
                      refine ⟨L, k, c, rfl, isP_sqT rc, eD6, fun q hq => isP_sqT (hL6 q hq).1, hz, fun real => ⟨putT L k c yv, G6, upd_same, nD, (s2.trans st).write0 hD, g6.soft eD6 real, fun q hq => ?_, ?_, by rw [putT_keys]; exact p2⟩⟩
                      · rcases putT_mem q hq with z | ⟨q', hq', z1, z2⟩
                        · rw [z.1, z.2]; exact ⟨IsP.soft eD6 rc, hk⟩
                        · rw [← z1, ← z2]; exact ⟨IsP.soft eD6 (hL6 q' hq').1, (hL6 q' hq').2⟩
                      · have e1 : (putT L k c yv).length = ((putT L k c yv).map (·.1)).length := by rw [List.length_map]
                        rw [e1, putT_keys]
                        have e2 := addK_len (L.map (·.1)) k
                        have e3 := hzz.1
                        rw [List.length_map] at e2 e3
                        omega
                    · exact p2.elim
      · rw [if_neg okk] at p2
        exact p2.elim
    · have e : xs.length ≤ i := by omega
      rw [List.drop_eq_nil_of_le e] at p2
      unfold dkN at p2
      by_cases okk : s.ok G2
      · rw [if_pos okk] at p2
        refine .inl ⟨wk.stop H2 _ _ i s2 g2 okk e, D, L, rfl, eD, fun q hq => isP_sqT (hL q hq).1, fun q hq => (hL q hq).2, hz, fun a ha => ?_⟩
        rw [ER.bind_ok, newL_newO] at p2
        have p3 : Post X.K X.mg T (RV X.K) W σ μ1 H1 Q (liftO (newO fz (((L.map (·.1)).mergeSort leR).map rowT) G2)) := p2
        obtain ⟨w, G', e, o⟩ := out_of p3
        refine out_new (fun z H' μ' s' r' g' => o z H' μ' (s2.trans s') r' g') e g2 ?_ ha
        have key : ((L.map fun p => ((p.2.1, p.1) : Addr × List Int)).mergeSort (PySem.W.dataLe false encT)).map (·.2) = (L.map (·.1)).mergeSort leR := by rw [sort_snd, kst_map]
        rw [← key]
        refine refs_rows fun y hy => ?_
        obtain ⟨q, hq, rfl⟩ := List.mem_map.mp (List.mem_mergeSort.mp hy)
        exact (hL q hq).1
      · rw [if_neg okk] at p2
        exact p2.elim
end
end DL
/-! DLh: isinstance, methods of lists, items stored, chains of comparisons, [::-1], *x, calls by a local name. -/
namespace DL
open PySem PySem.Spec PyProof.Rows L2

section
variable {X : Cx} {T : List (Addr × Str)} {W : WX} {pos pos2 p p2 apos : Pos} {e a b c o : Expr} {es : List Expr} {ma mb mc mo : EM} {m : AM} {fz : Bool}
/-! ### isinstance(x, C), C a built-in type -/
theorem kitB_sub : ∀ t ∈ ["NoneType", "bool", "int", "str", "list", "tuple", "dict"], ∀ c ∈ ["bool", "int", "str", "list", "tuple", "dict"], kitB t c = some (isSub t c) := by decide +kernel
theorem tyOf_mem {G : Ms} {v : DV} {t : String} (e : tyOf G v = some t) : t ∈ ["NoneType", "bool", "int", "str", "list", "tuple", "dict"] := by
  cases v with
  | d x => cases x <;> cases e <;> decide
  | fn a => cases e
  | scr ns => cases e
  | mr n =>
    have e' : (match G[n]? with | some (.lst _) => some "list" | none => none) = some t := e
    cases hG : G[n]? with
    | none => rw [hG] at e'; cases e'
    | some o => cases o; rw [hG] at e'; cases e'; decide
theorem d_isi {C : String} {x : Str} (hg : Gl X "isinstance") (hm : X.mg "isinstance" = none) (hg2 : Gl X x) (hm2 : X.mg x = none) (hv2 : bootBuiltins x = some (.type C)) (ha : PE X a (tE X.K X.mg T W ma)) (hC : C ∈ ["bool", "int", "str", "list", "tuple", "dict"] := by decide)
    (hv : bootBuiltins "isinstance" = some (.builtin "isinstance") := by first | rfl | decide +kernel) (hn : x ≠ "__name__" := by decide) (hdb : (x == ("__debug__" : Str)) = false := by decide)
    (hs1 : starEach [.Name x p2] X.env = (false, eval (.Name x p2) X.env) :: starEach [] X.env := by rfl)
    (hs2 : starEach [a, .Name x p2] X.env = (false, eval a X.env) :: starEach [.Name x p2] X.env := by rfl)
    (hpl : (backTo pos (starEach [.Name x p2] X.env)).any (·.1) = false := by rfl) :
    PE X (.Call (.Name "isinstance" p) [a, .Name x p2] [] pos) (tE X.K X.mg T W (unE (isiF C) ma)) :=
  pe_weak (pe_callB call_isi hg hm hv (pa_cons ha (pa_cons (pe_bltn (v := .ty C) hg2 hm2 hv2 rfl hn hdb) pa_nil hs1) hs2) (by decide) (by decide) hs2 hpl) fun σ H Q h => by
    refine (tG.bind (R := RV X.K) (f := fun v ds G1 => liftO (isiF C v G1)) h).mono ?_
    rintro x H1 ⟨μ1, ds, v, G1, hs, g1, r1, pp⟩
    obtain ⟨w, G', e, o⟩ := out_of pp
    unfold isiF at e
    split at e
    · rename_i t et
      cases e
      exact ⟨x, .ty C, .type t, .type C, isSub t C, rfl, .ty C, tyX_of r1 g1 et, kit_ty (kitB_sub t (tyOf_mem et) C hC), o.here g1 (.bool _)⟩
    · cases e

/-! ### methods of lists -/
abbrev MeF := DV → List DV → Ms → Option (DV × Ms)
def methE (f : MeF) (mo : EM) (m : AM) : EM := fun ds G => (mo ds G).bind fun v G1 => (m ds G1).bind fun vs G2 => liftO (f v vs G2)
def meth0E (f : MeF) (mo : EM) : EM := fun ds G => (mo ds G).bind fun v G1 => liftO (f v [] G1)
def isL : DV → Ms → Bool
  | .mr n, G => (G[n]?).isSome
  | .d (.list _), _ => true
  | _, _ => false
theorem isL_ty {K : PySem.W.Frag} {H : Hp} {μ : List Addr} {G : Ms} {y : V} {v : DV} (r : IsV K H μ y v) (g : GR K T H μ G) (h : isL v G = true) : tyV K "list" y H := by
  cases v with
  | d x =>
    cases x <;> try cases h
    have r' : IsP K H μ y (.list _) := r
    cases r' with
    | lst f hh => exact .inl ⟨rfl, _, f.sqL⟩
  | fn a => cases h
  | scr ns => cases h
  | mr n =>
    obtain ⟨a, rfl, hm⟩ := r
    have h' : (G[n]?).isSome = true := h
    cases hG : G[n]? with
    | none => rw [hG] at h'; cases h'
    | some o =>
      cases o with
      | lst ws =>
        obtain ⟨vs, h1, h2⟩ := g.at_ n a _ hm hG
        exact .inl ⟨rfl, vs, .of h1⟩
/-- the list is asked ahead of the arguments -/
def methL (f : MeF) (mo : EM) (m : AM) : EM := fun ds G => (mo ds G).bind fun v G1 => if isL v G1 = true then (m ds G1).bind fun vs G2 => liftO (f v vs G2) else .bad
def rM (K : PySem.W.Frag) (T : List (Addr × Str)) (f : MeF) : V → List V → Hp → VK → Prop := fun x xs H Q => ∃ μ v vs G w G', IsV K H μ x v ∧ IsVs K H μ xs vs ∧ GR K T H μ G ∧ f v vs G = some (w, G') ∧ Out K T μ H w G' Q
theorem d_meth {f : MeF} {name : Str} {id : String} {cpos : Pos} (slot : Slot "list" name id) (hty : typeOf (.builtin id) = pure (.type "method_descriptor")) (hm : MtR X id (rM X.K T f)) (ho : PE X o (tE X.K X.mg T W mo)) (ha : PA X (e :: es) (tL X.K X.mg T W m))
    (hbase : attributeBase o name X.env (eval o X.env) = eval o X.env := by rfl)
    (hfew : ((backTo cpos (starEach (e :: es) X.env)).all (fun x => !x.1) && (backToKw cpos (keywordEach [] X.env)).all (fun x => x.1.isSome)
      && decide ((e :: es).length + ([] : List Keyword).length + (if ([] : List Keyword).isEmpty then 0 else 1) < 30)) = true := by rfl)
    (hline : (apos.endLine == cpos.line) = true := by rfl) (hs : starEach (e :: es) X.env = (false, eval e X.env) :: starEach es X.env := by rfl) (hplain : (backTo cpos (starEach es X.env)).any (·.1) = false := by rfl) :
    PE X (.Call (.Attribute o name apos) (e :: es) [] cpos) (tE X.K X.mg T W (methL f mo m)) :=
  pe_weak (pe_bm PySem.F.plainAttrs_list slot hty hm ho ha hbase hfew hline hs hplain) fun σ H Q h => by
    refine (tG.bind (R := RV X.K) (f := fun v ds G1 => if isL v G1 = true then (m ds G1).bind fun vs G2 => liftO (f v vs G2) else .bad) h).mono ?_
    rintro x H1 ⟨μ1, ds, v, G1, hs, g1, r1, p⟩
    split at p
    · rename_i hl
      refine ⟨isL_ty r1 g1 hl, μ1, ds, G1, hs, g1, ?_⟩
      refine (Post.bind (R := RA X.K) p).mono ?_
      rintro xs H2 ⟨μ2, vs, G2, s, r2, g2, p2⟩
      obtain ⟨w, G', e, oo⟩ := out_of p2
      exact ⟨μ2, v, vs, G2, w, G', r1.mono s, r2, g2, e, oo⟩
    · exact p.elim
def methL0 (f : MeF) (mo : EM) : EM := fun ds G => (mo ds G).bind fun v G1 => if isL v G1 = true then liftO (f v [] G1) else .bad
theorem d_meth0 {f : MeF} {name : Str} {id : String} {cpos : Pos} (slot : Slot "list" name id) (hty : typeOf (.builtin id) = pure (.type "method_descriptor")) (hm : MtR X id (rM X.K T f)) (ho : PE X o (tE X.K X.mg T W mo))
    (hbase : attributeBase o name X.env (eval o X.env) = eval o X.env := by rfl) (hline : (apos.endLine == cpos.line) = true := by rfl) : PE X (.Call (.Attribute o name apos) [] [] cpos) (tE X.K X.mg T W (methL0 f mo)) :=
  pe_weak (pe_bm0 PySem.F.plainAttrs_list slot hty hm ho hbase hline) fun σ H Q h => by
    refine (tG.bind (R := RV X.K) (f := fun v ds G1 => if isL v G1 = true then liftO (f v [] G1) else .bad) h).mono ?_
    rintro x H1 ⟨μ1, ds, v, G1, hs, g1, r1, p⟩
    split at p
    · rename_i hl
      obtain ⟨w, G', e, oo⟩ := out_of p
      exact ⟨isL_ty r1 g1 hl, μ1, v, [], G1, w, G', r1, .nil, g1, e, oo⟩
    · exact p.elim
theorem mr_at {K : PySem.W.Frag} {H : Hp} {μ : List Addr} {G : Ms} {y : V} {n : Nat} {xs : List PyData} (r : IsV K H μ y (.mr n)) (g : GR K T H μ G) (e : G[n]? = some (.lst xs)) : ∃ a vs, y = .ref a ∧ μ[n]? = some a ∧ H a = some (.lst vs) ∧ IsPs K H μ vs xs := by
  obtain ⟨a, rfl, hm⟩ := r
  obtain ⟨vs, h1, h2⟩ := g.at_ n a _ hm e
  exact ⟨a, vs, rfl, hm, h1, h2⟩
theorem out_write {K : PySem.W.Frag} {H : Hp} {μ : List Addr} {G : Ms} {n : Nat} {a : Addr} {vs : List V} {xs : List PyData} {w : DV} {z : V} {Q : VK} (o : Out K T μ H w (G.set n (.lst xs)) Q) (g : GR K T H μ G) (hm : μ[n]? = some a) (r : IsPs K H μ vs xs)
    (rz : ∀ H', Step μ H μ H' → IsV K H' μ z w) : Q z (upd H a (.lst vs)) :=
  have s : Step μ H μ (upd H a (.lst vs)) := .write (List.mem_of_getElem? hm)
  o z _ μ s (rz _ s) (g.write hm r)
def appendF : MeF := fun v vs G => match v, vs with
  | .mr n, [.d x] => match G[n]? with
    | some (.lst xs) => if xs.length < sizeLine then some (.d .none, G.set n (.lst (xs ++ [x]))) else none
    | none => none
  | _, _ => none
theorem m_append : MtR X "list.append" (rM X.K T appendF) := by
  rintro pins s σ H x xs v us Q I rx rs ⟨μ, v', vs, G, w, G', r1, r2, g, e, o⟩
  unfold appendF at e
  split at e
  · rename_i n d
    split at e
    · rename_i ys hG
      split at e
      · rename_i hz
        cases e
        obtain ⟨a, ws, rfl, hm, hH, ps⟩ := mr_at r1 g hG
        obtain ⟨y, rfl, ry⟩ := isVs1 r2
        exact mt_append pins s σ H _ _ v us Q I rx rs ⟨a, ws, y, rfl, rfl, hH, by rw [ps.length]; exact hz, out_write o g hm (ps.append (.cons ry .nil)) fun _ _ => .none⟩
      · cases e
    · cases e
  · cases e
def popF : MeF := fun v vs G => match v, vs with
  | .mr n, [] => match G[n]? with
    | some (.lst xs) => match xs[xs.length - 1]? with
      | some y => some (.d y, G.set n (.lst xs.dropLast))
      | none => none
    | none => none
  | _, _ => none
theorem IsPs.dropLast {K : PySem.W.Frag} {H : Hp} {μ : List Addr} {vs : List V} {ds : List PyData} (h : IsPs K H μ vs ds) : IsPs K H μ vs.dropLast ds.dropLast := by
  rw [List.dropLast_eq_take, List.dropLast_eq_take, h.length]
  exact h.take _
theorem m_pop : MtR X "list.pop" (rM X.K T popF) := by
  rintro pins s σ H x xs v us Q I rx rs ⟨μ, v', vs, G, w, G', r1, r2, g, e, o⟩
  unfold popF at e
  split at e
  · rename_i n
    split at e
    · rename_i ys hG
      split at e
      · rename_i y hy
        cases e
        obtain ⟨a, ws, rfl, hm, hH, ps⟩ := mr_at r1 g hG
        cases r2
        obtain ⟨u, hu, ru⟩ := ps.get hy
        refine mt_pop pins s σ H _ _ v us Q I rx rs ⟨a, ws, u, rfl, rfl, hH, by rw [ps.length]; exact hu, out_write o g hm ps.dropLast fun _ st => IsP.mono st ru⟩
      · cases e
    · cases e
  · cases e
def extendF : MeF := fun v vs G => match v, vs with
  | .mr n, [u] => match G[n]?, lstOf G u with
    | some (.lst xs), some ys => if xs.length + ys.length ≤ sizeLine then some (.d .none, G.set n (.lst (xs ++ ys))) else none
    | _, _ => none
  | _, _ => none
theorem m_extend : MtR X "list.extend" (rM X.K T extendF) := by
  rintro pins s σ H x xs v us Q I rx rs ⟨μ, v', vs, G, w, G', r1, r2, g, e, o⟩
  unfold extendF at e
  split at e
  · rename_i n u
    split at e
    · rename_i ys zs hG hz
      split at e
      · rename_i hl
        cases e
        obtain ⟨a, ws, rfl, hm, hH, ps⟩ := mr_at r1 g hG
        obtain ⟨y, rfl, ry⟩ := isVs1 r2
        obtain ⟨b, qs, rfl, hB, pz⟩ := lst_at ry g hz
        exact mt_extend pins s σ H _ _ v us Q I rx rs ⟨a, b, ws, qs, rfl, rfl, hH, hB, by rw [ps.length, pz.length]; exact hl, out_write o g hm (ps.append pz) fun _ _ => .none⟩
      · cases e
    · cases e
  · cases e
def insertF : MeF := fun v vs G => match v, vs with
  | .mr n, [.d (.int i), .d x] => match G[n]? with
    | some (.lst xs) => if xs.length < sizeLine ∧ 0 ≤ i ∧ i < 2 ^ 63 then some (.d .none, G.set n (.lst (xs.take i.toNat ++ [x] ++ xs.drop i.toNat))) else none
    | none => none
  | _, _ => none
theorem m_insert : MtR X "list.insert" (rM X.K T insertF) := by
  rintro pins s σ H x xs v us Q I rx rs ⟨μ, v', vs, G, w, G', r1, r2, g, e, o⟩
  unfold insertF at e
  split at e
  · rename_i n i d
    split at e
    · rename_i ys hG
      split at e
      · rename_i hz
        cases e
        obtain ⟨a, ws, rfl, hm, hH, ps⟩ := mr_at r1 g hG
        obtain ⟨y, z, rfl, ry, rz⟩ := isVs2 r2
        cases isV_int ry
        exact mt_insert pins s σ H _ _ v us Q I rx rs ⟨a, ws, i, z, rfl, rfl, hH, by rw [ps.length]; exact hz.1, hz.2.1, hz.2.2, out_write o g hm (((ps.take _).append (.cons rz .nil)).append (ps.drop _)) fun _ _ => .none⟩
      · cases e
    · cases e
  · cases e

/-! ### xs[i], xs[i] = v within o[i] op= e -/
def setF : SetF := fun o i v G => match o, i, v with
  | .mr n, .d (.int k), .d x => match G[n]? with
    | some (.lst xs) => match ixN xs.length k with
      | some j => some (G.set n (.lst (xs.set j x)))
      | none => none
    | none => none
  | _, _, _ => none
theorem set_l : PSet X (rSet X.K T setF) := by
  rintro pins s σ H o i v ov iv u Q I ro ri rv ⟨μ, o', i', v', G, G', r1, r2, r3, g, e, q⟩
  unfold setF at e
  split at e
  · rename_i n k x
    split at e
    · rename_i ys hG
      split at e
      · rename_i j hj
        cases e
        obtain ⟨a, ws, rfl, hm, hH, ps⟩ := mr_at r1 g hG
        cases isV_int r2
        refine set_list pins s σ H _ _ v ov iv u Q I ro ri rv ⟨a, ws, k, j, rfl, rfl, hH, by rw [ps.length]; exact hj, ?_⟩
        exact q _ μ (.write (List.mem_of_getElem? hm)) (g.write hm (ps.set j r3))
      · cases e
    · cases e
  · cases e
def getF : OpF := fun v u G => match v, u with
  | .mr n, .d (.int i) => match G[n]? with
    | some (.lst xs) => (atI xs i).map fun x => (.d x, G)
    | none => none
  | _, _ => none
theorem get_l : PGet X (rD X.K T getF) := by
  rintro pins s σ H x y v u Q I rx ry ⟨μ, v', u', G, w, G', r1, r2, g, e, o⟩
  unfold getF at e
  split at e
  · rename_i n i
    split at e
    · rename_i ys hG
      cases h : atI ys i with
      | none => rw [h] at e; cases e
      | some d =>
        rw [h] at e
        cases e
        obtain ⟨a, ws, rfl, hm, hH, ps⟩ := mr_at r1 g hG
        cases isV_int r2
        obtain ⟨z, e2, r⟩ := atI_at ps h
        cases rx
        obtain ⟨t, rfl⟩ := ry
        obtain ⟨its, rv, pl, hz⟩ := I.list (xs := ws) (.of hH)
        obtain ⟨j, h1, h2, h3, h4, h5⟩ := atI_get e2
        obtain ⟨val, ew, rw'⟩ := rv.get h2
        have hl := rv.length
        have hn := line63
        have fin : EP X pins σ Q val s := ⟨z, H, I, rw', o.here g r⟩
        by_cases h0 : 0 ≤ i
        · have hj : i.toNat = j := by
            rw [seqIndex_of h0 h5] at h1
            exact Option.some.inj h1
          exact wpAny_getItem_list pl.isList h0 (by omega) (by rw [hj]; simpa using ew) fin
        · have hj : (i + (its.toArray.size : Int)).toNat = j := by
            rw [seqIndex_neg (by omega) h4] at h1
            rw [List.size_toArray, ← hl]
            exact Option.some.inj h1
          exact wpAny_getItem_list_neg pl.isList (by omega) (by rw [List.size_toArray]; omega) (by omega) (by rw [hj]; simpa using ew) fin
    · cases e
  · cases e

/-! ### a op1 b op2 c -/
def chainE (f f' : OpF) (ma mb mc : EM) : EM := fun ds G => (ma ds G).bind fun v G1 => (mb ds G1).bind fun u G2 => (liftO (f v u G2)).bind fun k G3 => (ofO G3 (isB k)).bind fun k G4 => if k = true then (mc ds G4).bind fun z G5 => liftO (f' u z G5) else .ok (.d (.bool false)) G4
theorem chain_imp {f f' : OpF} {σ : L2.St} {H : Hp} {Q : VK} (h : tE X.K X.mg T W (chainE f f' ma mb mc) σ H Q) : tChain (rD X.K T f) (rD X.K T f') (tE X.K X.mg T W ma) (tE X.K X.mg T W mb) (tE X.K X.mg T W mc) σ H Q := by
  refine (tG.bind (R := RV X.K) (f := fun v ds G1 => (mb ds G1).bind fun u G2 => (liftO (f v u G2)).bind fun k G3 => (ofO G3 (isB k)).bind fun k G4 => if k = true then (mc ds G4).bind fun z G5 => liftO (f' u z G5) else .ok (.d (.bool false)) G4) h).mono ?_
  rintro x H1 ⟨μ1, ds, v, G1, hs, g1, r1, p⟩
  refine ⟨μ1, ds, G1, hs, g1, ?_⟩
  refine (Post.bind (R := RV X.K) p).mono ?_
  rintro y H2 ⟨μ2, u, G2, s2, r2, g2, p2⟩
  cases e2 : f v u G2 with
  | none => rw [e2] at p2; exact p2.elim
  | some q =>
    obtain ⟨w, G3⟩ := q
    rw [e2, liftO_some, ER.bind_ok] at p2
    refine ⟨μ2, v, u, G2, w, G3, r1.mono s2, r2, g2, e2, fun z H3 μ3 s3 r3 g3 => ?_⟩
    cases ek : isB w with
    | none => rw [ek] at p2; exact p2.elim
    | some k =>
      rw [ek, ofO_some, ER.bind_ok] at p2
      refine ⟨k, bool_of r3 ek, ?_⟩
      cases k with
      | false =>
        rw [if_neg Bool.false_ne_true] at p2 ⊢
        exact Post.okv (R := RV X.K) (p2.step s3) g3 (.bool false)
      | true =>
        rw [if_pos rfl] at p2 ⊢
        refine ⟨μ3, ds, G3, (hs.mono s2).mono s3, g3, ?_⟩
        refine (Post.bind (R := RV X.K) (p2.step s3)).mono ?_
        rintro z4 H4 ⟨μ4, u4, G4, s4, r4, g4, p4⟩
        obtain ⟨w4, G5, e4, o4⟩ := out_of p4
        exact ⟨μ4, u, u4, G4, w4, G5, (r2.mono s3).mono s4, r4, g4, e4, o4⟩
theorem d_chain {op op' : CmpOp} {f f' : OpF} (ho : OpR X (compareOp op) (rD X.K T f)) (ho' : OpR X (compareOp op') (rD X.K T f')) (ha : PE X a (tE X.K X.mg T W ma)) (hb : PE X b (tE X.K X.mg T W mb)) (hc : PE X c (tE X.K X.mg T W mc))
    (hm : lastMarks [op, op'] [b, c] = false := by with_unfolding_all rfl) : PE X (.Compare a [op, op'] [b, c] pos) (tE X.K X.mg T W (chainE f f' ma mb mc)) :=
  pe_weak (pe_chain ho ho' ha hb hc hm) fun _ _ _ h => chain_imp h
theorem d_tchain {op op' : CmpOp} {f f' : OpF} (ho : OpR X (compareOp op) (rD X.K T f)) (ho' : OpR X (compareOp op') (rD X.K T f')) (ha : PE X a (tE X.K X.mg T W ma)) (hb : PE X b (tE X.K X.mg T W mb)) (hc : PE X c (tE X.K X.mg T W mc))
    (hm : lastMarks [op, op'] [b, c] = false := by with_unfolding_all rfl) : PT X (.Compare a [op, op'] [b, c] pos) (tB X.K X.mg T W (valB (chainE f f' ma mb mc))) :=
  pt_weak (pt_chain ho ho' ha hb hc hm) fun _ _ _ h => chain_imp (val_imp h)

/-! ### xs[::-1] of a list -/
def revF (fz : Bool) : UnF := fun v G => match lstOf G v with
  | some xs => newO fz xs.reverse G
  | none => none
theorem d_revL {k : Nat} {p1 p2 p3 : Pos} (he : PE X e (tE X.K X.mg T W ma)) : PE X (.Subscript e (.Slice none none (some (.UnaryOp .USub (.Constant (.int 1) k p1) p2)) p3) pos) (tE X.K X.mg T W (unE (revF fz) ma)) :=
  pe_weak (pe_revL he) fun σ H Q h => by
    refine (tG.bind (R := RV X.K) (f := fun v ds G1 => liftO (revF fz v G1)) h).mono ?_
    rintro x H1 ⟨μ1, ds, v, G1, hs, g1, r1, pp⟩
    obtain ⟨w, G', e, o⟩ := out_of pp
    unfold revF at e
    split at e
    · rename_i xs e1
      obtain ⟨a, vs, rfl, q, ps⟩ := lst_at r1 g1 e1
      exact ⟨a, vs, rfl, .of q, fun p hp => out_new o e g1 ps.reverse hp⟩
    · cases e

/-! ### (.., *x, ..) -/
def starA (ma : EM) (m : AM) : AM := fun ds G => (ma ds G).bind fun v G1 => match seqOf G1 v with
  | some xs => (m ds G1).bind fun vs G2 => .ok (xs.map .d ++ vs) G2
  | none => .bad
theorem isVs_app {K : PySem.W.Frag} {H : Hp} {μ : List Addr} {ys zs : List V} {xs : List PyData} {vs : List DV} (p : IsPs K H μ ys xs) (q : IsVs K H μ zs vs) : IsVs K H μ (ys ++ zs) (xs.map .d ++ vs) := by
  induction xs generalizing ys with
  | nil => cases p; exact q
  | cons x xs ih =>
    cases p with
    | cons a b => exact .cons a (ih b)
theorem d_star (ha : PE X e (tE X.K X.mg T W ma)) (hr : PA X es (tL X.K X.mg T W m)) (hs : starEach (.Starred e p :: es) X.env = (true, eval e X.env) :: starEach es X.env := by rfl) : PA X (.Starred e p :: es) (tL X.K X.mg T W (starA ma m)) :=
  pa_weak (StX.pa_star ha hr hs) fun σ H Q h => by
    refine (tG.bind (R := RV X.K) (f := fun v ds G1 => match seqOf G1 v with | some xs => (m ds G1).bind fun vs G2 => .ok (xs.map .d ++ vs) G2 | none => .bad) h).mono ?_
    rintro x H1 ⟨μ1, ds, v, G1, hs, g1, r1, pp⟩
    cases e1 : seqOf G1 v with
    | none => simp only [e1] at pp; exact pp.elim
    | some xs =>
      simp only [e1] at pp
      obtain ⟨a, vs, rfl, q, ps⟩ := seq_at r1 g1 e1
      refine ⟨a, vs, rfl, q.symm, μ1, ds, G1, hs, g1, ?_⟩
      refine (Post.bind (R := RA X.K) pp).mono ?_
      rintro ys H2 ⟨μ2, us, G2, s, r2, g2, p2⟩
      exact Post.okv (R := RA X.K) p2 g2 (isVs_app (IsPs.mono s ps) r2)

/-! ### x(e), x a local name that holds a def -/
def callLE (i : Nat) (fa : Addr) (f : FM) (m : AM) : EM := fun ds G => match ds[i]? with
  | some (some (.fn a)) => if a = fa then (m ds G).bind fun vs G1 => f vs G1 else .bad
  | _ => .bad
theorem d_callL {f : FM} {k n i : Nat} {fa : Addr} {fd : FuncData} {ps : List Str} {x : Str} (F : FnOk X.prog X.w X.K X.mg X.base (L2.CX X.prog X.w) k fa fd ps (spD X.K X.mg T n f)) (tk : Takes X W) (hr : Room k X.A) (hN : X.N[i]? = some x) (hv : Vis X.env.scope x) (hk : PySem.W.keepIn X.K (.ref fa) = true)
    (hb : Binds X.K fd ps []) (ha : PA X (e :: es) (tL X.K X.mg T W m)) (hn : n = ps.length) (hln : LenA n m) (hdb : (x == ("__debug__" : Str)) = false := by decide) (hcd : (x == ("__classdict__" : Str)) = false := by decide)
    (he : starEach (e :: es) X.env = (false, eval e X.env) :: starEach es X.env := by rfl) (hpl : (backTo pos (starEach es X.env)).any (·.1) = false := by rfl) : PE X (.Call (.Name x p) (e :: es) [] pos) (tE X.K X.mg T W (callLE i fa f m)) :=
  ⟨fun pins s σ H Q I h => by
    obtain ⟨μ, ds, G, hs, g, p⟩ := h
    unfold callLE at p
    split at p
    · rename_i a hi
      split at p
      · rename_i ea
        subst ea
        obtain ⟨y, e1, r⟩ := hs.at_ i _ hi
        cases (show y = .ref a from r)
        have p' : Post X.K X.mg T (RV X.K) W σ μ H Q ((m ds G).bind fun vs G1 => f vs G1) := p
        have h2 : tL X.K X.mg T W m σ H fun xs H1 => spD X.K X.mg T n f (xs ++ []) H1 Q (WE W σ) := by
          refine ⟨μ, ds, G, hs, g, ?_⟩
          cases em : m ds G with
          | bad => rw [em] at p'; exact p'.elim
          | exn x G1 => rw [em] at p'; exact p'
          | ok vs G1 =>
            rw [em] at p'
            rintro ys H1 μ1 s1 r1 g1
            rw [List.append_nil]
            refine ⟨μ1, vs, G1, r1, g1, hln _ _ _ _ em, ?_⟩
            have p1 := Post.step p' s1
            simp only [ER.bind_ok] at p1
            cases ef : f vs G1 with
            | bad => rw [ef] at p1; exact p1.elim
            | ok v G2 => rw [ef] at p1; exact p1
            | exn x G2 => rw [ef] at p1; exact p1
        refine wpAny_Call_Name_kw (thn ((pe_var (i := i) hN hv hdb hcd).run pins s σ H (fun v H1 => v = V.ref a ∧ H1 = H) I ⟨.ref a, e1, rfl, rfl⟩) fun u s1 ⟨v, H1, I1, r1, q1⟩ => ?_)
        cases q1.1
        cases q1.2
        cases r1
        exact PySem.W.callWith_K (h₀ := X.base) I.ok.mod.kin hk (thn (ha.run _ pins s1 σ _ _ I1 h2) fun us s2 ⟨vs, H2, I2, rr, q⟩ => ⟨I2.kIn, run_fnSD F hr hb .nil (passAt tk σ) I2 rr q⟩) he hpl
      · exact p.elim
    · exact p.elim⟩
end
end DL
/-! DLi: enumerate over tuples and lists. -/
namespace DL
open PySem PySem.Spec PyProof.Rows L2

/-! ### enumerate(tuple): its two new objects -/
theorem enum_new {v : Value} {o : Obj} {Z : Heap → Prop} (B : Begins v o Z) :
    Meets (Builtin.«enumerate.__new__» ⟨[.type "enumerate", v], []⟩) (fun _ R s => Z s.heap ∧
      R (.ok (.ret (.ref (s.heap.push o).objs.size))) { s with heap := (s.heap.push o).push { cls := .type "enumerate", data := .fields #[.none, .bool false, .ref s.heap.objs.size, rawInt 0, .none, .none] } }) :=
  .of_wp fun prog w A R s z => by
    obtain ⟨hp, gs, dr, tk, os⟩ := s
    obtain ⟨z1, z2⟩ := z
    have sub := sub_enumerate
    have begins : ∀ {A' : Around} {E : Value → Shared → Prop} {Q : Value → Shared → Prop}, Q (.ref hp.objs.size) ⟨hp.push o, gs, dr, tk, os⟩ → wpAny (model prog w) A' (pyIter v) Q E ⟨hp, gs, dr, tk, os⟩ := fun q => B.iter prog w _ _ ⟨hp, gs, dr, tk, os⟩ _ z1 q
    wp_walk using begins
    refine wpAny_stack_any fun st => wpAny_pure ?_
    split
    · rename_i c _ _ _ _ _
      cases (c == Value.type "enumerate")
      · wp_walk using begins
        exact ⟨_, rfl, z2⟩
      · wp_walk using begins
        exact ⟨_, rfl, z2⟩
    · wp_walk using begins
      exact ⟨_, rfl, z2⟩
abbrev enumO (n : Addr) : Obj := { cls := .type "enumerate", data := .fields #[.none, .bool false, .ref n, rawInt 0, .none, .none] }
section
variable {prog : Program} {w : World} {A : Around} {E : Value → Shared → Prop} {s : Shared}
theorem enum_call {v : Value} {o : Obj} {Z : Heap → Prop} {Q : Value → Shared → Prop} (B : Begins v o Z) (hz : Z s.heap)
    (hQ : ∀ g, IsEnum g (s.heap.objs.size + 1) s.heap.objs.size 0 .none → g.get? s.heap.objs.size = some o → (∀ b u, s.heap.get? b = some u → g.get? b = some u) → Q (.ref (s.heap.objs.size + 1)) { s with heap := g }) :
    wpAny (model prog w) A (call (.type "enumerate") [v]) Q E s := by
  refine callType_new F.called_enumerate (by decide) (F.typeCall_enumerate_1 _) (F.newCall_enumerate_1 _) (fun ob => F.args_object_init_2 ob _) F.entry_enumerate_new (enum_new B) ⟨hz, ?_⟩
  have sz : (s.heap.push o).objs.size = s.heap.objs.size + 1 := Heap.size_push ..
  show _ ∧ _
  rw [sz]
  have at_ : IsEnum ((s.heap.push o).push (enumO s.heap.objs.size)) (s.heap.objs.size + 1) s.heap.objs.size 0 .none := by
    have q := Heap.get?_push_size (s.heap.push o) (o := enumO s.heap.objs.size) rfl
    rw [sz] at q
    exact q
  exact ⟨⟨_, at_, rfl⟩, hQ _ at_ (Heap.get?_push_of_some _ (Heap.get?_push_size _ B.free)) fun b u e => Heap.get?_push_of_some _ (Heap.get?_push_of_some _ e)⟩
end
/-- the tuple at a, each item in a new pair -/
def IteT (K : PySem.W.Frag) (a : Addr) : It :=
  ⟨fun i H => ∃ (xs : List V) (x : V), SqT K H a xs ∧ xs[i]? = some x, fun i H v H' => ∃ t x, v = .ref t ∧ H t = none ∧ H' = upd H t (.tup [.int (i : Nat), x]) ∧ ∀ xs, SqT K H a xs → xs[i]? = some x, fun i H => ∃ xs : List V, SqT K H a xs ∧ xs.length ≤ i⟩
theorem turn_enumT {P : Program} {w : World} {K : PySem.W.Frag} {elts : List Expr} {kk : Nat} {tpos : Pos} (a e it : Addr) :
    Turn P w K (.Tuple elts kk tpos) (IteT K a) [e, it] e (fun i h => (∃ old, IsEnum h e it ((i : Nat) : Int) old) ∧ h.IsTupleIter it a i ∧ e ≠ it ∧ a ≠ it ∧ e ≠ a) where
  mem := List.mem_cons_self
  obj := fun i h st b hb => by
    obtain ⟨⟨old, q1⟩, ⟨o, ho, _, hd⟩, _⟩ := st
    rcases List.mem_cons.mp hb with z | z
    · rw [z]; exact ⟨_, q1, fun v y => nomatch y⟩
    · rw [List.mem_singleton.mp z]; exact ⟨o, ho, fun v y => by rw [hd] at y; cases y⟩
  keep := fun i h h' st k => by
    obtain ⟨⟨old, q1⟩, q2, ne⟩ := st
    exact ⟨⟨old, k e (by simp) _ q1⟩, q2.at fun o y => k it (by simp) o y, ne⟩
  item := by
    intro X hP hw hK hc i pins s σ H E I hf st hg
    subst hP hw hK
    obtain ⟨⟨old, q1⟩, q2, ne, na, nea⟩ := st
    obtain ⟨xs, x, hq, hx⟩ := hg
    obtain ⟨its, rv, p, hz⟩ := I.tuple hq
    obtain ⟨o, ho, hcl, n, hd⟩ := p
    obtain ⟨u, hu, ru⟩ := rv.get hx
    have le : e < s.heap.objs.size := Heap.lt_size q1
    have li : it < s.heap.objs.size := by obtain ⟨_, y, _⟩ := q2; exact Heap.lt_size y
    have hi : i < its.toArray.size := by
      have := (List.getElem?_eq_some_iff.mp hu).1
      simpa using this
    refine wpAny_pyNext_enum_itemD (Draws.tuple (A := X.A.in1) (by simp [I.ok.hd hc]) it a na its.toArray) q1 ⟨q2, (⟨o, ho, hcl, n, hd⟩ : s.heap.IsTuple a its.toArray)⟩ hi ne (by simp [ne, nea]) fun v g tk hv ho' st' hT hsz hk => ?_
    have ev : v = u := by
      have hu' : its.toArray[i]? = some u := by simpa using hu
      rw [hu'] at hv
      exact (Option.some.inj hv).symm
    subst ev
    refine ⟨_, rfl, wpAny_letOwnedTupleGo_enum (s := { s with heap := g, toks := tk + 1 }) ho' fun g2 q1' sb => ?_⟩
    have hT2 : g2.get? s.heap.objs.size = some { cls := .type "tuple", data := .seq #[.int i tk, v] } := (sb.2 _ (Nat.ne_of_gt le)).trans hT
    have new : ObjOk X.prog X.w (upd H s.heap.objs.size (.tup [.int (i : Nat), x])) g2 s.heap.objs.size (.tup [.int (i : Nat), x]) := by
      refine ⟨?_, [.int i tk, v], .cons ⟨_, rfl⟩ (.cons ru .nil), ⟨_, hT2, rfl, _, rfl⟩⟩
      show 2 ≤ sizeLine
      decide
    have I1 : Inv X pins σ (upd H s.heap.objs.size (.tup [.int (i : Nat), x])) { s with heap := g2, toks := tk + 1 } :=
      I.turnedNew (ch := [e, it]) (fun b ob hb y => (sb.2 b (fun z => hb (by simp [z]))).trans (hk b ob (fun z => hb (by simp [z])) (fun z => hb (by simp [z])) y)) hf (Nat.le_refl _) new
    refine ⟨.ref s.heap.objs.size, _, I1, rfl, ⟨_, x, rfl, I.hok.fresh (Nat.le_refl _), rfl, fun ys hy => by rw [I.tuple_inj hy hq]; exact hx⟩, ⟨⟨v, ?_⟩, st'.1.at fun o y => (sb.2 it (Ne.symm ne)).trans y, ne, na, nea⟩, fun b hb => ?_⟩
    · have z : ((i + 1 : Nat) : Int) = (i : Int) + 1 := by omega
      rw [z]
      exact q1'
    · have hlt : b < s.heap.objs.size := by
        rcases List.mem_cons.mp hb with z | z
        · rw [z]; exact le
        · rw [List.mem_singleton.mp z]; exact li
      rw [upd_ne (Nat.ne_of_lt hlt)]
      exact (hf b hb).1
  done := by
    intro X hP hw hK hc i pins s σ H E I hf st hg
    subst hP hw hK
    obtain ⟨⟨old, q1⟩, q2, ne, na, nea⟩ := st
    obtain ⟨xs, hq, hx⟩ := hg
    obtain ⟨its, rv, ⟨o, ho, hcl, n, hd⟩, hz⟩ := I.tuple hq
    have hl := rv.length
    obtain ⟨f0, f1, f2, f3, f4, f5⟩ := hf it (by simp)
    have D : Draws X.prog X.w X.A.in1 it [it, a] i (fun _ _ => True) (fun j h => j = i ∧ h.IsTupleIter it a i ∧ h.IsTuple a its.toArray) := by
      refine ⟨fun j h st => ?_, fun j h h' st k => ⟨st.1, st.2.1.at fun o e => k it (by simp) o e, st.2.2.at fun o e => k a (by simp) o e⟩, fun j s Q E hj st _ => absurd st.1 (Nat.ne_of_lt hj), fun s Q E st hE => ?_⟩
      · obtain ⟨_, ⟨o, y, _⟩, _⟩ := st
        exact ⟨o, y⟩
      · exact wpAny_nextOf_tuple_end (by simp [I.ok.hd hc]) st.2.1 st.2.2 (by simp; omega) hE
    exact wpAny_pyNext_enum_endD D q1 ⟨rfl, q2, ⟨o, ho, hcl, n, hd⟩⟩ fun g hk => ⟨rfl, I.turned (t' := s.toks) (fun b o hb y => hk b o hb y) f0 f1 f3 f4 f5⟩
  self := fun A i s Q E st h => by
    obtain ⟨⟨old, q1⟩, _⟩ := st
    exact wpAny_pyIter_enum q1 h

def iEnumT (K : PySem.W.Frag) (ta : TA) : TI := fun σ H R => ta σ H fun vs H1 => ∃ a xs, vs = [.ref a] ∧ SqT K H1 a xs ∧ R (IteT K a) H1
theorem pi_enumT {X : Cx} {e : Expr} {ta : TA} {p pos tpos : Pos} {elts : List Expr} {kk : Nat} (hg : Gl X "enumerate") (hm : X.mg "enumerate" = none) (ha : PA X [e] ta) (hs : starEach [e] X.env = [(false, eval e X.env)] := by rfl) :
    PI X (.Tuple elts kk tpos) (.Call (.Name "enumerate" p) [e] [] pos) (iEnumT X.K ta) := by
  refine ⟨fun pins s σ H R I h => ?_⟩
  refine Call_ (ld_blt I hg hm boot_enumerate (PyProof.Rows.callWith_type1 (thn (ha.run pos pins s σ H _ I h) fun us s1 ⟨vs, H1, I1, r1, a, xs, ev, hq, q⟩ => ?_) hs rfl))
  subst ev
  obtain ⟨u, rfl, ru⟩ := vals1 r1
  cases ru
  obtain ⟨its, rv, ⟨o, ho, hcl, n, hd⟩, hz⟩ := I1.tuple hq
  have la : a < s1.heap.objs.size := Heap.lt_size ho
  refine enum_call (begins_tuple a its.toArray) (⟨o, ho, hcl, n, hd⟩ : s1.heap.IsTuple a its.toArray) fun g q1 q2 hk => wpAny_pyIter_enum q1 ?_
  have I2 : Inv X pins σ H1 { s1 with heap := g } := I1.kept (t' := s1.toks) hk
  refine ⟨s1.heap.objs.size + 1, [s1.heap.objs.size + 1, s1.heap.objs.size], _, _, H1, rfl, I2, turn_enumT a (s1.heap.objs.size + 1) s1.heap.objs.size,
    ⟨⟨.none, q1⟩, ⟨_, q2, rfl, rfl⟩, Nat.succ_ne_self _, Nat.ne_of_lt la, Nat.ne_of_gt (Nat.lt_succ_of_lt la)⟩, fun b hb => ?_, q⟩
  have hle : s1.heap.objs.size ≤ b := by
    rcases List.mem_cons.mp hb with z | z
    · rw [z]; exact Nat.le_succ _
    · rw [List.mem_singleton.mp z]; exact Nat.le_refl _
  exact I1.fpOk hle (I1.hok.fresh hle)

/-! ### by values -/
def enumD (xs : List PyData) : List PyData := xs.mapIdx fun i x => .tuple [.int (i : Nat), x]
theorem enumD_get {xs : List PyData} {i : Nat} : (enumD xs)[i]? = xs[i]?.map fun x => .tuple [.int (i : Nat), x] := by
  unfold enumD
  rw [List.getElem?_mapIdx]
theorem enumD_len (xs : List PyData) : (enumD xs).length = xs.length := by simp [enumD]
theorem step_pair {K : PySem.W.Frag} {T : List (Addr × Str)} {H : Hp} {μ : List Addr} {G : Ms} {t : Addr} {v u : V} {x y : PyData} (g : GR K T H μ G) (ht : H t = none) (rv : IsP K H μ v x) (ru : IsP K H μ u y) :
    Step μ H μ (upd H t (.tup [v, u])) ∧ GR K T (upd H t (.tup [v, u])) μ G ∧ IsP K (upd H t (.tup [v, u])) μ (.ref t) (.tuple [x, y]) := by
  have s : Step μ H μ (upd H t (.tup [v, u])) := .fresh ht
  exact ⟨s, g.fresh ht, .tup ⟨upd_same, g.notin ht⟩ (.cons (IsP.mono s rv) (.cons (IsP.mono s ru) .nil))⟩
theorem walks_enum {K : PySem.W.Frag} {T : List (Addr × Str)} {H0 : Hp} {μ0 : List Addr} {a : Addr} {xs : List PyData} {s : Src} (h : ∀ H μ G, Step μ0 H0 μ H → GR K T H μ G → s.ok G → ∃ vs, SqL K H a vs ∧ IsPs K H μ vs xs) : Walks K T H0 μ0 (Ite K a) (enumD xs) s := by
  refine ⟨fun H μ G i st g ok hi => ?_, fun H μ G i y H' st g ok hi hy => ?_, fun H μ G i st g ok hi => ?_⟩
  · obtain ⟨vs, q, r⟩ := h H μ G st g ok
    rw [enumD_len] at hi
    have hv : i < vs.length := by rw [r.length]; exact hi
    exact ⟨vs, vs[i], q, List.getElem?_eq_getElem hv⟩
  · obtain ⟨vs, q, r⟩ := h H μ G st g ok
    obtain ⟨t, x, rfl, ht, rfl, hx⟩ := hy
    obtain ⟨d, e, p⟩ := r.getV (hx vs q)
    obtain ⟨s1, g1, p1⟩ := step_pair g ht (.int (i : Nat)) p
    exact ⟨s1, g1, _, by rw [enumD_get, e]; rfl, p1⟩
  · obtain ⟨vs, q, r⟩ := h H μ G st g ok
    rw [enumD_len] at hi
    exact ⟨vs, q, by rw [r.length]; exact hi⟩
theorem walks_enumT {K : PySem.W.Frag} {T : List (Addr × Str)} {H0 : Hp} {μ0 : List Addr} {a : Addr} {xs : List PyData} {s : Src} (h : ∀ H μ G, Step μ0 H0 μ H → GR K T H μ G → s.ok G → ∃ vs, SqT K H a vs ∧ IsPs K H μ vs xs) : Walks K T H0 μ0 (IteT K a) (enumD xs) s := by
  refine ⟨fun H μ G i st g ok hi => ?_, fun H μ G i y H' st g ok hi hy => ?_, fun H μ G i st g ok hi => ?_⟩
  · obtain ⟨vs, q, r⟩ := h H μ G st g ok
    rw [enumD_len] at hi
    have hv : i < vs.length := by rw [r.length]; exact hi
    exact ⟨vs, vs[i], q, List.getElem?_eq_getElem hv⟩
  · obtain ⟨vs, q, r⟩ := h H μ G st g ok
    obtain ⟨t, x, rfl, ht, rfl, hx⟩ := hy
    obtain ⟨d, e, p⟩ := r.getV (hx vs q)
    obtain ⟨s1, g1, p1⟩ := step_pair g ht (.int (i : Nat)) p
    exact ⟨s1, g1, _, by rw [enumD_get, e]; rfl, p1⟩
  · obtain ⟨vs, q, r⟩ := h H μ G st g ok
    rw [enumD_len] at hi
    exact ⟨vs, q, by rw [r.length]; exact hi⟩
/-- enumerate(l), l a list; enumerate(t), t a tuple -/
def enumLI : DV → Ms → Option ((List PyData × Src) × Ms) := fun v G => (seqI v G).map fun p => ((enumD p.1.1, p.1.2), p.2)
def enumTI : DV → Ms → Option ((List PyData × Src) × Ms) := fun v G => (tupI v G).map fun p => ((enumD p.1.1, p.1.2), p.2)
theorem seqI_src {K : PySem.W.Frag} {T : List (Addr × Str)} {H : Hp} {μ : List Addr} {G : Ms} {y : V} {v : DV} {xs : List PyData} {s : Src} {G' : Ms} (r : IsV K H μ y v) (g : GR K T H μ G) (e : seqI v G = some ((xs, s), G')) :
    G' = G ∧ ∃ a, y = .ref a ∧ (∃ vs, SqL K H a vs) ∧ ∀ H' μ' G', Step μ H μ' H' → GR K T H' μ' G' → s.ok G' → ∃ vs, SqL K H' a vs ∧ IsPs K H' μ' vs xs := by
  cases v with
  | d x =>
    have r' : IsP K H μ y x := r
    cases r' <;> cases e
    rename_i f h
    exact ⟨rfl, _, rfl, ⟨_, f.sqL⟩, fun H' μ' G' st g' _ => ⟨_, (f.mono trivial st).sqL, IsPs.mono st h⟩⟩
  | fn a => cases e
  | mr n =>
    obtain ⟨a, rfl, hm⟩ := r
    have e' : (match G[n]? with | some (.lst xs) => some ((xs, Src.ref n xs), G) | _ => none) = some ((xs, s), G') := e
    cases hG : G[n]? with
    | none => rw [hG] at e'; cases e'
    | some o =>
      cases o with
      | lst ws =>
        rw [hG] at e'
        cases e'
        obtain ⟨vs, h1, h2⟩ := g.at_ n a _ hm hG
        refine ⟨rfl, a, rfl, ⟨_, .of h1⟩, fun H' μ' G' st g' ok => ?_⟩
        obtain ⟨vs', h1', h2'⟩ := g'.at_ n a _ (pre_get st.pre hm) ok
        exact ⟨vs', .of h1', h2'⟩
  | scr ns => cases e
theorem tupI_src {K : PySem.W.Frag} {H : Hp} {μ : List Addr} {G : Ms} {y : V} {v : DV} {xs : List PyData} {s : Src} {G' : Ms} (r : IsV K H μ y v) (e : tupI v G = some ((xs, s), G')) :
    G' = G ∧ s = .pure ∧ ∃ a, y = .ref a ∧ (∃ vs, SqT K H a vs) ∧ ∀ H' μ', Step μ H μ' H' → ∃ vs, SqT K H' a vs ∧ IsPs K H' μ' vs xs := by
  cases v with
  | d x =>
    have r' : IsP K H μ y x := r
    cases r' <;> cases e
    · rename_i f h
      exact ⟨rfl, rfl, _, rfl, ⟨_, f.sqT⟩, fun H' μ' st => ⟨_, (f.mono trivial st).sqT, IsPs.mono st h⟩⟩
    · rename_i f h
      exact ⟨rfl, rfl, _, rfl, ⟨_, sqT_of f⟩, fun H' μ' st => ⟨_, sqT_of f, IsPs.mono st h⟩⟩
  | fn a => cases e
  | mr n => cases e
  | scr ns => cases e
section
variable {X : Cx} {T : List (Addr × Str)} {W : WX} {pos p tpos : Pos} {a : Expr} {ma : EM} {elts : List Expr} {kk : Nat}
theorem i_enumL (hg : Gl X "enumerate") (hm : X.mg "enumerate" = none) (ha : PE X a (tE X.K X.mg T W ma)) (hs : starEach [a] X.env = [(false, eval a X.env)] := by rfl) :
    PI X (.Tuple elts kk tpos) (.Call (.Name "enumerate" p) [a] [] pos) (tI X.K X.mg T W (iterE enumLI ma)) :=
  pi_weak (pi_enum hg hm (pa_cons ha pa_nil hs) hs) fun σ H Q h => by
    refine (tG.bind (R := RV X.K) (f := fun v ds G1 => liftO (enumLI v G1)) h).mono ?_
    rintro y H1 ⟨μ1, ds, v, G1, hs, g1, r, pp⟩
    cases e1 : seqI v G1 with
    | none => unfold enumLI at pp; rw [e1] at pp; exact pp.elim
    | some q =>
      obtain ⟨⟨xs, s⟩, G2⟩ := q
      unfold enumLI at pp
      rw [e1] at pp
      obtain ⟨rfl, c, rfl, ⟨vs, hv⟩, wk⟩ := seqI_src r g1 e1
      exact ⟨c, vs, rfl, hv, Post.okv (R := RI X.K T) pp g1 (walks_enum wk)⟩
theorem i_enumT (hg : Gl X "enumerate") (hm : X.mg "enumerate" = none) (ha : PE X a (tE X.K X.mg T W ma)) (hs : starEach [a] X.env = [(false, eval a X.env)] := by rfl) :
    PI X (.Tuple elts kk tpos) (.Call (.Name "enumerate" p) [a] [] pos) (tI X.K X.mg T W (iterE enumTI ma)) :=
  pi_weak (pi_enumT hg hm (pa_cons ha pa_nil hs) hs) fun σ H Q h => by
    refine (tG.bind (R := RV X.K) (f := fun v ds G1 => liftO (enumTI v G1)) h).mono ?_
    rintro y H1 ⟨μ1, ds, v, G1, hs, g1, r, pp⟩
    cases e1 : tupI v G1 with
    | none => unfold enumTI at pp; rw [e1] at pp; exact pp.elim
    | some q =>
      obtain ⟨⟨xs, s⟩, G2⟩ := q
      unfold enumTI at pp
      rw [e1] at pp
      obtain ⟨rfl, rfl, c, rfl, ⟨vs, hv⟩, wk⟩ := tupI_src r e1
      exact ⟨c, vs, rfl, hv, Post.okv (R := RI X.K T) pp g1 (walks_enumT fun H' μ' G' st _ _ => wk H' μ' st)⟩
end
end DL
/-! DXa: an own exception's __init__ whose first row is super().__init__(..), ValueError's. -/
namespace DL
open PySem PySem.Spec PyProof.Rows L2

/-- the frame of a def that closes over __class__ -/
abbrev envI (qual : Str) (scope : Scope) (L f : Addr) (cd : Value) (cc : Addr) : Env := PySem.W.ksEnv qual scope L f cd cc
def cxI (P : Program) (w : World) (K : PySem.W.Frag) (mg : Str → Option Value) (base : Heap) (N : List Str) (qual : Str) (scope : Scope) (f : Addr) (cd : Value) (cc : Addr) (A : Around) (outer : List Env) (s : Shared) (H : Hp) (E : XK) : Cx where
  prog := P
  w := w
  K := K
  mg := mg
  base := base
  A := A.deeper (envI qual scope s.heap.objs.size f cd cc)
  N := N
  s_0 := s
  H_0 := H
  env := envI qual scope s.heap.objs.size f cd cc
  outer := outer
  stack := envI qual scope s.heap.objs.size f cd cc :: outer
  ex := []
  calm := true
  fn := fun _ => false
  pn := []
  xe := fun e s' => wpAny (model P w) (A.deeper (envI qual scope s.heap.objs.size f cd cc)) (leaving (envI qual scope s.heap.objs.size f cd cc) e) (fun _ s'' => L2.CX P w outer H s E e s'') (fun e' s'' => L2.CX P w outer H s E e' s'') s'

/-- its scope: parameters first, all local, but for __class__ -/
structure ScopeI (N ps : List Str) (sc : Scope) : Prop where
  kind : sc.kind = .function
  co : sc.isCoroutine = false
  gen : sc.isGenerator = false
  nd : N.Nodup
  pre : N = ps
  par : ∀ x ∈ ps, sc.names.lookup x = some .local
  nocell : ∀ y ∈ sc.names, y.2 ≠ .cell
  free : ∀ x, sc.names.lookup x = some .free → x = "__class__"
  cls : sc.names.lookup ("__class__" : Str) = some .free
  sup : sc.names.lookup ("super" : Str) = some .globalImplicit

theorem zip_look : ∀ {ps : List Str} {us : List Value} {i : Nat} {x : Str} {v : Value}, ps.Nodup → ps[i]? = some x → us[i]? = some v → (ps.zip us).lookup x = some v
  | [], _, _, _, _, _, h, _ => by simp at h
  | _ :: _, [], _, _, _, _, _, h => by simp at h
  | p :: ps, u :: us, 0, x, v, _, h1, h2 => by
    simp at h1 h2
    subst h1 h2
    simp [List.lookup]
  | p :: ps, u :: us, i + 1, x, v, nd, h1, h2 => by
    have ne : x ≠ p := fun e => (List.nodup_cons.mp nd).1 (by rw [← e]; exact List.mem_of_getElem? (by simpa using h1))
    have hb : (x == p) = false := by simpa using ne
    rw [List.zip_cons_cons, List.lookup_cons, hb]
    exact zip_look (i := i) (List.nodup_cons.mp nd).2 (by simpa using h1) (by simpa using h2)
theorem look_mem {l : List (Str × Value)} {x : Str} {v : Value} (nd : (l.map (·.1)).Nodup) (h : (x, v) ∈ l) : l.lookup x = some v := by
  induction l with
  | nil => cases h
  | cons p l ih =>
    obtain ⟨k, u⟩ := p
    rw [List.map_cons, List.nodup_cons] at nd
    rcases List.mem_cons.mp h with e | e
    · cases e
      simp [List.lookup]
    · have ne : x ≠ k := fun z => nd.1 (by rw [← z]; exact List.mem_map_of_mem (f := (·.1)) e)
      have hb : (x == k) = false := by simpa using ne
      rw [List.lookup_cons, hb]
      exact ih nd.2 e
theorem look_rev {l : List (Str × Value)} (nd : (l.map (·.1)).Nodup) {x : Str} {v : Value} (h : l.lookup x = some v) : l.reverse.lookup x = some v := by
  refine look_mem ?_ ?_
  · rw [List.map_reverse]
    exact (List.reverse_perm _).nodup_iff.mpr nd
  · exact List.mem_reverse.mpr (PySem.mem_of_lookup h)

/-- what the written part says of the class and its __init__ -/
structure SupC (P : Program) (K : PySem.W.Frag) (C cc cda : Addr) (mg : Str → Option Value) : Prop where
  oex : OexC K C
  cell : ∃ cl cld csl, K.lookup cc = some ⟨cl, cld, .cell (some (.ref C)), csl⟩
  code : ∃ ccl cdd vs ccs file tf, K.lookup cda = some ⟨ccl, cdd, .fields vs, ccs⟩ ∧ vs[2]? = some (.str file tf) ∧ ((P.main.file : Str) == file) = true
  self : PySem.W.mroIn K C (.ref C) = some true
  ve : PySem.W.subIn K (.ref C) (.type "ValueError") = some true
  up : PySem.W.ks_superIn K C C "__init__" = some (some (.builtin "ValueError.__init__"))
  any : PySem.W.nsIn K cStatics "thirdparty.any" = some none
  top : (P.main.scope.names.lookup ("super" : Str)).isSome = false
  sup : mg "super" = none

section
variable {P : Program} {w : World} {K : PySem.W.Frag} {mg : Str → Option Value} {base : Heap} {k : Nat} {f C cc cda : Addr} {name qual : Str} {params : Arguments} {scope : Scope} {dV kV doc pm ct oc : Value} {an od : Option Addr} {osl : Array (Option Value)} {N ps : List Str} {sp : Sp}
  {p0 p1 ap cp ep : Pos} {args : List Expr} {e : Expr} {rest : List Stmt} {self : Str}
theorem inv_startI {A : Around} {outer : List Env} {s : Shared} {H : Hp} {E : XK} {us : List Value} {vs : List V} {h0 : Heap} {tk : Nat} (S : ScopeI N ps scope) (hd : A.handled = none) (e0 : Env0 P w K mg base A outer s H) (hl : vs.length = ps.length) (r : Vals vs us) (Z : SupC P K C cc cda mg)
    (hns : h0.Ns s.heap.objs.size fun x => (ps.zip us).reverse.lookup x) (hk : ∀ b o, s.heap.get? b = some o → h0.get? b = some o) :
    Inv (cxI P w K mg base N qual scope f (.ref cda) cc A outer s H E) [] (L2.start N vs) H { s with heap := h0, toks := tk } := by
  have noA : ∀ b : Addr, b ∉ (cxI P w K mg base N qual scope f (.ref cda) cc A outer s H E).ex := fun b z => absurd (show b ∈ ([] : List Addr) from z) (by simp)
  obtain ⟨cl, cld, csl, hc⟩ := Z.cell
  have hcc : base.get? cc = some _ := e0.mod.kin _ _ hc
  have only : ∀ x c, (cxI P w K mg base N qual scope f (.ref cda) cc A outer s H E).env.cells.lookup x = some c → x = "__class__" ∧ c = cc := fun x c h => by
    have h' : ([(("__class__" : Str), cc)] : List (Str × Addr)).lookup x = some c := h
    rw [List.lookup_cons] at h'
    by_cases z : x = ("__class__" : Str)
    · subst z
      simp at h'
      exact ⟨rfl, h'.symm⟩
    · have hb : (x == ("__class__" : Str)) = false := by simpa using z
      rw [hb] at h'
      cases h'
  refine ⟨⟨e0.mod, S.kind, rfl, rfl, Nat.le_refl _, fun x y c h1 h2 => by rw [(only x c h1).1, (only y c h2).1], fun x hx => ?_, fun y c hf _ => absurd hf (by show ¬ (false = true); simp), fun _ => hd, Around.frames_deeper e0.frames, .inr ⟨rfl, rfl⟩, fun b z => absurd z (noA b), e0.bs, e0.bsz, fun b _ _ => noA b, fun b z => absurd z (noA b), e0.funs, e0.frf⟩,
    rfl, e0.bare, Un.kept hk, ⟨_, hns, fun i y v h1 h2 h3 => ?_⟩, fun x c h => ?_, e0.hok.fresh (Nat.le_refl _), fun x c h => ?_, fun p hp => absurd (show p ∈ ([] : List (Addr × Obj)) from hp) (by simp), e0.hok.kept hk, ?_⟩
  · have hx' : scope.names.lookup x = some .cell ∨ scope.names.lookup x = some .free := hx
    rcases hx' with z | z
    · exact absurd rfl (S.nocell _ (PySem.mem_of_lookup z))
    · rw [S.free x z]
      exact ⟨cc, by show ([(("__class__" : Str), cc)] : List (Str × Addr)).lookup _ = _; simp [List.lookup]⟩
  · have hN := S.pre
    have hp : ps[i]? = some y := by rw [← hN]; exact h1
    have hi : i < vs.length := by rw [hl]; exact (List.getElem?_eq_some_iff.mp hp).1
    have ha : vs[i]? = some v := by
      unfold L2.start at h2
      rw [List.getElem?_append_left (by simpa using hi), List.getElem?_map] at h2
      cases z : vs[i]? with
      | none => rw [z] at h2; cases h2
      | some a => rw [z] at h2; cases h2; rfl
    obtain ⟨u, hu, rv⟩ := r.get ha
    have nd : ps.Nodup := by rw [← hN]; exact S.nd
    refine ⟨u, rv, .inl ⟨S.par y (List.mem_of_getElem? hp), ?_⟩⟩
    refine look_rev ?_ (zip_look nd hp hu)
    rw [List.map_fst_zip (by rw [← r.length, hl]; exact Nat.le_refl _)]
    exact nd
  · obtain ⟨rfl, rfl⟩ := only x c h
    exact ⟨_, _, hk _ _ (e0.bs _ _ hcc).1, rfl⟩
  · obtain ⟨rfl, rfl⟩ := only x c h
    exact (e0.bs _ _ hcc).2
  · unfold L2.start
    show _ = N.length
    rw [List.length_append, List.length_map, List.length_replicate, S.pre, hl]
    omega
/-- the def's first row, then the rest -/
theorem fn_sup (lk : K.lookup f = some ⟨oc, od, .func (PySem.W.ksFn name qual params (.Expr (.Call (.Attribute (.Call (.Name "super" p0) [] [] p1) "__init__" ap) (e :: args) [] cp) ep :: rest) scope dV kV doc pm an (.ref cda) ct cc), osl⟩) (hcd : PySem.W.codeIn K (.ref cda) qual = true)
    (S : ScopeI N ps scope) (Z : SupC P K C cc cda mg) (len : ∀ vs H Q E, sp vs H Q E → vs.length = ps.length) {ar : Arg} (hpar : (params.posonlyargs ++ params.args).head? = some ar) (hself : ps[0]? = some ar.arg)
    (hargs : ∀ env : Env, starEach (e :: args) env = (false, eval e env) :: starEach args env := by intro _; rfl) (hplain : ∀ env : Env, (backTo cp (starEach args env)).any (·.1) = false := by intro _; rfl)
    (hsw : ∀ env : Env, swapsWith (.Call (.Attribute (.Call (.Name "super" p0) [] [] p1) "__init__" ap) (e :: args) [] cp) none ep.line env = pure false := by intro _; rfl)
    (pl : Env → Sem Bool) (hev : ∀ env : Env, eval (.Call (.Attribute (.Call (.Name "super" p0) [] [] p1) "__init__" ap) (e :: args) [] cp) env = (do
      let ov ← attributeBase (.Call (.Name "super" p0) [] [] p1) "__init__" env (eval (.Call (.Name "super" p0) [] [] p1) env)
      standAt ap.atName
      let (f, first) ← holding [ov] (getMethod ov "__init__" (pl env))
      callWith cp f first (backTo cp (starEach (e :: args) env)) []))
    (hbody : ∀ (A : Around) (outer : List Env) (s : Shared) (H : Hp) (vs : List V) (Q : VK) (E : XK), sp vs H Q E →
      ∃ (a : Addr) (ws : List V) (ta : TA) (t : TS), vs = .ref a :: ws ∧ H a = some (exo a C none) ∧ PA (cxI P w K mg base N qual scope f (.ref cda) cc A outer s H E) (e :: args) ta ∧ PSs (cxI P w K mg base N qual scope f (.ref cda) cc A outer s H E) rest t ∧
        ta (L2.start N vs) H fun ys H1 => ys.length ≤ 1000 ∧ H1 a = some (exo a C none) ∧ t { nx := fun _ H' => Q .non H', rt := Q } (L2.start N vs) H1) :
    FnOk P w K mg base (L2.CX P w) (k + 1) f (PySem.W.ksFn name qual params (.Expr (.Call (.Attribute (.Call (.Name "super" p0) [] [] p1) "__init__" ap) (e :: args) [] cp) ep :: rest) scope dV kV doc pm an (.ref cda) ct cc) ps sp := by
  refine ⟨len, fun A outer s H as us vs Q E hr e0 hb r hsp => ?_⟩
  have hl := len _ _ _ _ hsp
  have KX : K.In s.heap := e0.mod.kin.keeps fun b o z => (e0.bs b o z).1
  have lim : s.heap.NoLimit := e0.mod.nolimit.keeps fun b o z => (e0.bs b o z).1
  have fin : ∀ {s' : Shared} {σ' : L2.St} {H' : Hp} {v : V} {u : Value}, Inv (cxI P w K mg base N qual scope f (.ref cda) cc A outer s H E) [] σ' H' s' → RelV v u → Q v H' → CE outer P w H s Q u s' := fun {s' σ' H' v u} J rv q => ⟨v, H', J.os, J.bare, J.base, J.hok, rv, q⟩
  refine PySem.ks_codeAny_call_defAt hr.depth (KX _ _ lk) rfl lim (PySem.W.codeRec_of KX hcd) rfl hb (fun x hx => S.nocell x hx) (fun x hx => S.par _ (List.of_mem_zip (show (x.1, x.2) ∈ ps.zip us from hx)).1) (fun h0 hns hk => ?_) S.co S.gen S.kind
  have I := inv_startI (f := f) (qual := qual) (E := E) (tk := s.toks + (ps.zip us).length) S hr.hd e0 hl r Z hns hk
  obtain ⟨a, ws, ta, t, rfl, ea, hA, hT, hta⟩ := hbody A outer s H vs Q E hsp
  show PySem.wpAt (model P w) (A.deeper (envI qual scope s.heap.objs.size f (.ref cda) cc)) (.func _ (envI qual scope s.heap.objs.size f (.ref cda) cc)) (execs _ (envI qual scope s.heap.objs.size f (.ref cda) cc)) _ _ _
  generalize hs1 : ({ s with heap := h0, toks := s.toks + (ps.zip us).length } : Shared) = s1 at I ⊢
  have KI : K.In s1.heap := I.kIn
  obtain ⟨cl, cld, csl, hcell⟩ := Z.cell
  obtain ⟨ccl, cdd, cvs, ccs, file, tf, hcode, hvs, hfile⟩ := Z.code
  obtain ⟨nm, qn, CN, bs, bm, sn, sub, ab, col, dd, k0, k1, k2, k3, k5, hC, hbm⟩ := Z.oex.cls
  have hquiet : interactive (envI qual scope s.heap.objs.size f (.ref cda) cc) = false := by
    unfold interactive
    show (scope.kind == .module && _) = false
    rw [S.kind]
    rfl
  refine PySem.ks_wpAt_execs_cons (PySem.ks_wpAt_Expr_any (PySem.ks_wpAt_MethodCall (pl := pl _) (PySem.ks_wpAt_super_base S.sup S.cls (by decide) rfl (KI _ _ lk) rfl hpar rfl (KI _ _ hcode) rfl hvs hfile Z.top ?_) (hev _)) hquiet (hsw _))
  obtain ⟨mb, hmb, hboot⟩ := I.mod.blt
  refine PySem.W.ks_loadName_global S.kind S.sup (PySem.Calls.loadGlobal_builtin (I.mod.glob.keeps I.bk) Z.sup (hmb.keeps I.bk) (v := .type "super") ((hboot _ (by decide)).trans (by first | rfl | decide +kernel)) ⟨rfl, ?_⟩)
  refine wpAny_loadName_free S.kind S.cls rfl ⟨_, KI _ _ hcell, rfl⟩ ?_
  obtain ⟨m, hm, hlook⟩ := I.loc
  have hself' : N[0]? = some ar.arg := by rw [S.pre]; exact hself
  obtain ⟨u, ru, lo⟩ := hlook 0 ar.arg (.ref a) hself' (by unfold L2.start; rfl) (.inl (S.par _ (List.mem_of_getElem? hself)))
  cases (show u = Value.ref a from ru)
  have hloc := S.par _ (List.mem_of_getElem? hself)
  have hma : m ar.arg = some (.ref a) := by
    rcases lo with ⟨_, z⟩ | ⟨z, _⟩
    · exact z
    · have z' : scope.names.lookup ar.arg = some .cell ∨ scope.names.lookup ar.arg = some .free := z
      rw [hloc] at z'
      rcases z' with y | y <;> cases y
  refine wpAny_loadName_local S.kind hloc hm hma ?_
  obtain ⟨t1, hoe⟩ := exo_at I.hok ea
  obtain ⟨hp, g, d, tk, os⟩ := s1
  refine PySem.ks_wpAny_isType_cls (KI _ _ hC) rfl ⟨rfl, ?_⟩
  refine PySem.ks_wpAny_call_super (KI _ _ hC) rfl hoe rfl (fun c z => nomatch z) (PySem.W.looks_mroIn KI Z.self) fun h2 hso k2 => ?_
  -- the super object's method
  have K2 : K.In h2 := KI.keeps k2
  have I2 : Inv (cxI P w K mg base N qual scope f (.ref cda) cc A outer s H E) [] (L2.start N (.ref a :: ws)) H ⟨h2, g, d, tk, os⟩ := I.kept (t' := tk) k2
  have inst : PySem.W.InstAt h2 a _ C none := ⟨k2 _ _ hoe, rfl, rfl, trivial⟩
  have hup := Z.up
  unfold PySem.W.ks_superIn PySem.W.clsIn at hup
  rw [hC] at hup
  have haC : a ≠ C := fun z => by
    rw [z, KI _ _ hC] at hoe
    cases hoe
  have hcls : PySem.W.Looks (model P w) h2 (mroOf (.ref C)) (.ref C :: bm) := (PySem.W.looks_clsIn K2 (by unfold PySem.W.clsIn; rw [hC])).andThen .now
  refine PySem.W.kxs_getMethod PySem.W.kxs_ValueError hso (PySem.W.looks_opaque K2 Z.any) hcls rfl K2 hup (inst.type.andThen (PySem.W.looks_subIn K2 Z.ve)) haC (by decide) ?_
  generalize hu : h2.objs.size = u
  have hmw : (h2.push (PySem.W.kxs_mw "ValueError.__init__" a)).get? u = some (PySem.W.kxs_mw "ValueError.__init__" a) := by subst hu; exact Heap.get?_push_size _ rfl
  have I3 : Inv (cxI P w K mg base N qual scope f (.ref cda) cc A outer s H E) [] (L2.start N (.ref a :: ws)) H ⟨h2.push (PySem.W.kxs_mw "ValueError.__init__" a), g, d, tk + 1, os⟩ := I2.kept (t' := tk + 1) fun b o z => Heap.get?_push_of_some _ z
  have hfp : ∀ b ∈ [u], FpOk (cxI P w K mg base N qual scope f (.ref cda) cc A outer s H E) [] H b := fun b hb => by
    rw [List.mem_singleton.mp hb, ← hu]
    exact I2.fpOk (Nat.le_refl _) (I2.hok.fresh (Nat.le_refl _))
  have I3p := I3.pinned hfp fun b hb => by
    rw [List.mem_singleton.mp hb]
    exact ⟨_, hmw, fun v z => nomatch z⟩
  have hargs' := hargs (envI qual scope s.heap.objs.size f (.ref cda) cc)
  refine PySem.W.kxs_callWith (i := "ValueError.__init__") (x := a) (by rw [hargs']; show (false || (backTo cp (starEach args (envI qual scope s.heap.objs.size f (.ref cda) cc))).any (·.1)) = false; rw [hplain]; rfl) ?_
  rw [hargs']
  refine PySem.Calls.evalArgs_plain ?_
  have hrun := hA.run cp _ _ _ H _ I3p hta
  rw [show starEach (e :: args) (cxI P w K mg base N qual scope f (.ref cda) cc A outer s H E).env = (false, eval e (envI qual scope s.heap.objs.size f (.ref cda) cc)) :: starEach args (envI qual scope s.heap.objs.size f (.ref cda) cc) from hargs'] at hrun
  refine thn hrun fun us4 s4 ⟨ys, H1, I4, r4, hy, ea4, ht4⟩ => ?_
  have hu4 : s4.heap.get? u = some (PySem.W.kxs_mw "ValueError.__init__" a) := (I4.pin (u, _) (List.mem_append_right _ (List.mem_append_right _ (mem_pinsAt (List.mem_singleton.mpr rfl) hmw)))).1
  refine ⟨hu4, ?_⟩
  have K4 : K.In s4.heap := I4.kIn
  obtain ⟨t4, hoe4⟩ := exo_at I4.hok ea4
  obtain ⟨hp4, g4, d4, tk4, os4⟩ := s4
  show wpAny _ _ (call (.ref u) us4) _ _ _
  refine wpAny_call (codeAny_of_tree ?_)
  show wpAny _ _ (callAny (.ref u) ⟨us4, []⟩) _ _ _
  simp only [callAny]
  refine wpAny_bind (wpAny_load hu4 ?_)
  simp only [PySem.W.kxs_mw, show (Value.type "method-wrapper" == Value.type "method" || Value.type "method-wrapper" == Value.type "builtin_function_or_method" || Value.type "method-wrapper" == Value.type "method-wrapper") = true by decide, if_true]
  refine PySem.W.KFB.if_so (by decide) ?_
  refine wpAny_bind (PySem.W.check_bound_init F.excBase_ValueError.toExcCallFacts (K4 _ _ hC) hoe4 rfl ?_)
  refine wpAny_bind (wpAny_pure (wpAny_pure ?_))
  refine ⟨plainId_quiet F.excBase_ValueError.init.plain _, codeAny_builtin F.excBase_ValueError.initEntry ?_⟩
  have hz : us4.length ≤ sizeLine := by
    rw [← r4.length, sizeLine_eq]
    omega
  refine PySem.W.exc_init_tree (cls := .ref C) (t0 := t4) (dv := none) (c2 := .none) (c3 := .none) (b4 := .bool false) hoe4 hz fun h5 k5 e5 _ => ?_
  have J := I4.write (t' := tk4) (x := a) (e := a) (o := exo a C none) (by rw [ea4]; exact True.intro) (.inl rfl) k5 ⟨_, e5⟩ (exo_ok e5)
  have eu : upd H1 a (exo a C none) = H1 := by
    funext b
    by_cases hb : b = a
    · rw [hb, upd_same, ea4]
    · rw [upd_ne hb]
  rw [eu] at J
  refine PySem.wpAt_of_wpAny (wpAny_mono (hT.run [] _ _ H1 _ J.unpinned ht4) (fun fl s' hs => ?_) fun e' s' hs => hs)
  cases fl with
  | ret u' =>
    obtain ⟨v, σ', H', J', rv, q⟩ := hs
    exact fin J' rv q
  | next =>
    obtain ⟨σ', H', J', q⟩ := hs
    exact fin (v := V.non) (u := Value.none) J' rfl q
  | brk =>
    obtain ⟨_, _, _, q⟩ := hs
    exact q.elim
  | cont =>
    obtain ⟨_, _, _, q⟩ := hs
    exact q.elim
end
end DL
/-! DXb: try with several clauses, some with a name. -/
namespace DL
open PySem PySem.Spec PyProof.Rows L2

/-- a clause: what it catches, its name's slot, its suite's reading -/
structure Cla where
  c : Value
  slot : Option Nat
  ts : Addr → Value → Option Addr → TS
def goneE (o : Option Nat) (D : Ends) : Ends := match o with
  | none => D
  | some i => { nx := fun σ H => D.nx (σ.set i none) H, rt := D.rt, bk := fun σ H => D.bk (σ.set i none) H, ct := fun σ H => D.ct (σ.set i none) H }
def comeS (o : Option Nat) (a : Addr) (σ : L2.St) : L2.St := match o with
  | none => σ
  | some i => σ.set i (some (.ref a))
/-- what the clauses wish of the body's exceptions -/
def wCla (K : PySem.W.Frag) (Wo : WX) (D : Ends) : List Cla → WX
  | [] => Wo
  | q :: r => fun cls d σ H => ∃ b, PySem.W.exmOne K cls q.c = some b ∧ (b = true → ∀ a, H a = none → q.ts a cls d (goneE q.slot D) (comeS q.slot a σ) H) ∧ (b = false → wCla K Wo D r cls d σ H)
inductive ClaOk (X : Cx) : List ExceptHandler → List Cla → Prop
  | nil : ClaOk X [] []
  | plain {x : Str} {c : Value} {ts : Addr → Value → Option Addr → TS} {b : Stmt} {suite : List Stmt} {np hp : Pos} {hds : List ExceptHandler} {l : List Cla} (hc : Names X x c)
      (hsu : ∀ (a : Addr) (oe : Obj) (cls : Value) (d : Option Addr) (pn : List (Addr × Obj)), Zc cls d oe → (∃ vs, oe.data = .fields vs) → PSs (X.suite a ((a, oe) :: pn)) (b :: suite) (ts a cls d)) (r : ClaOk X hds l) :
      ClaOk X (.ExceptHandler (some (.Name x np)) none (b :: suite) hp :: hds) (⟨c, none, ts⟩ :: l)
  | named {x n : Str} {c : Value} {i : Nat} {ts : Addr → Value → Option Addr → TS} {b : Stmt} {suite : List Stmt} {np hp : Pos} {hds : List ExceptHandler} {l : List Cla} (hc : Names X x c) (hi : X.N[i]? = some n) (hn : X.env.kindOf n = some .local)
      (hsu : ∀ (a : Addr) (oe : Obj) (cls : Value) (d : Option Addr) (pn : List (Addr × Obj)), Zc cls d oe → (∃ vs, oe.data = .fields vs) → PSs (X.suite a ((a, oe) :: pn)) (b :: suite) (ts a cls d)) (r : ClaOk X hds l) :
      ClaOk X (.ExceptHandler (some (.Name x np)) (some n) (b :: suite) hp :: hds) (⟨c, some i, ts⟩ :: l)
section
variable {X : Cx} {body : List Stmt} {hd : ExceptHandler} {hds : List ExceptHandler} {l : List Cla} {pos : Pos} {tb : WX → TS} {Wo : WX}
theorem ps_tryC (hst : X.stack = X.env :: X.outer) (hfr : X.env.frame = some X.env.locals) (hN : X.N.Nodup) (tk : Takes X Wo)
    (hb : ∀ (W : WX) (pn : List (Addr × Obj)) (xe : Value → Shared → Prop), Takes (X.tr pn xe) W → PassesOwn (model X.prog X.w) X.A X.env xe → PSs (X.tr pn xe) body (tb W))
    (hcl : ClaOk X (hd :: hds) l) : PS X (.Try body (hd :: hds) [] [] pos) (fun D σ H => tb (wCla X.K Wo D l) D σ H) := by
  refine ⟨fun pins s σ H D I h => ?_⟩
  have ok := I.ok
  have frames : X.A.frames = some (X.env :: X.outer) := by rw [ok.frames, hst]
  refine wpAny_Try_except ?_
  have body_ := (hb (wCla X.K Wo D l) (X.pn ++ pins) (fun x s₁ => wpAny (model X.prog X.w) X.A (noteFrame x X.env) (fun _ s₂ => wpAny (model X.prog X.w) X.A (setFlight x none) (fun _ s₃ => wpAny (model X.prog X.w) X.A (handleBy x X.env (hd :: hds)) (SP X pins D) X.xe s₃) X.xe s₂) X.xe s₁)
    (fun u s' air => ?_) PassesOwn.looking).run [] s σ H D (I.toTry _) h
  · refine wpAny_mono body_ (fun fl s1 q => ?_) fun _ _ z => z
    cases fl with
    | next =>
      obtain ⟨σ1, H1, J, q⟩ := q
      exact wpAny_execs_nil ⟨σ1, H1, J.ofTry ok, q⟩
    | brk =>
      obtain ⟨σ1, H1, J, q⟩ := q
      exact ⟨σ1, H1, J.ofTry ok, q⟩
    | cont =>
      obtain ⟨σ1, H1, J, q⟩ := q
      exact ⟨σ1, H1, J.ofTry ok, q⟩
    | ret u =>
      obtain ⟨v, σ1, H1, J, r, q⟩ := q
      exact ⟨v, σ1, H1, J.ofTry ok, r, q⟩
  · obtain ⟨a, B, sI, pins', σ', H', cls, d, rfl, J', nb, up, sky, na, os, ag, wish⟩ := air
    have J : Inv X pins σ' H' sI := J'.ofTry ok
    have sky' : Sky B (X.env :: X.outer) a (Zc cls d) X.env.locals s'.heap := by rw [← hst]; exact sky
    show wpAny (model X.prog X.w) X.A (noteFrame (.ref a) X.env) _ _ _
    refine Sky.land Zc.steady frames hfr sky' fun g1 fl1 up1 => ?_
    have J1 : Inv X pins σ' H' { s' with heap := g1 } := J.landed nb fl1.1 (up.trans up1) os ag
    obtain ⟨oe1, vs1, ho1, hz1, hd1⟩ := fl1.there
    have apart : a ∉ frs (X.env :: X.outer) := fun hm => by
      obtain ⟨_, o', e', hnf⟩ := fl1.2.2.1.mem hm
      rw [ho1] at e'
      cases e'
      exact hnf _ hd1
    have nL : a ≠ X.env.locals := fun z => apart (List.mem_filterMap.mpr ⟨X.env, List.mem_cons_self, by rw [hfr, z]⟩)
    have nF : a ∉ X.fs := fun hm => by
      obtain ⟨ev, he, q⟩ := List.mem_filterMap.mp hm
      exact apart (List.mem_filterMap.mpr ⟨ev, List.mem_cons_of_mem _ he, q⟩)
    have S1 := J1.suite ho1 hd1 na nL nF
    have isa : PySem.W.Looks (model X.prog X.w) g1 (typeOf (.ref a)) cls := fun A Q E s k q => wpAny_typeOf_ref (k _ _ ho1) (by rw [hz1.1]; exact q)
    have asked : ∀ {x : Str} {c : Value} {np : Pos} {Q : Value → Shared → Prop} {E : Value → Shared → Prop}, Names X x c → Q c { s' with heap := g1 } → wpAny (model X.prog X.w) (X.A.mark (some (.ref a))) (eval (.Name x np) X.env) Q E { s' with heap := g1 } := fun hc q => by
      obtain ⟨gl, nd, hm | ⟨hm, hv, hnn⟩⟩ := hc
      · exact ld_glob (X := X.suite a ((a, oe1) :: (X.pn ++ pins))) S1 gl hm q nd
      · exact ld_blt (X := X.suite a ((a, oe1) :: (X.pn ++ pins))) S1 gl hm hv q hnn nd
    have walk : ∀ {hs2 : List ExceptHandler} {l2 : List Cla}, ClaOk X hs2 l2 → wCla X.K Wo D l2 cls d σ' H' → wpAny (model X.prog X.w) X.A (handleBy (.ref a) X.env hs2) (SP X pins D) X.xe { s' with heap := g1 } := by
      intro hs2 l2 hk
      induction hk with
      | nil =>
        intro w
        refine wpAny_handleBy_nil ?_
        obtain ⟨_, _, _, ob, vs, tb1, _, _, he, _, hdt, ht, _⟩ := id fl1
        unfold PySem.passOn
        refine wpAny_bind (wpAny_field he hdt ht ?_)
        rw [if_neg (show ¬ ((Value.ref tb1 == Value.none) = true) from by simp)]
        have on : wpAny (model X.prog X.w) X.A (setFlight (.ref a) X.env.frame) (fun _ s4 => wpAny (model X.prog X.w) X.A (throw (.ref a) : Sem Flow) (SP X pins D) X.xe s4) X.xe { s' with heap := g1 } := by
          rw [hfr]
          exact HandSPX.setFlight_upZ fl1 fun g4 hh4 up4 => wpAny_throw (tk _ _ ⟨a, B, sI, pins, σ', H', cls, d, rfl, J, nb, (up.trans up1).trans up4, .inr (.inr (by rw [hst]; exact hh4)), na, os, ag, w⟩)
        first
          | exact wpAny_bind (wpAny_pure (wpAny_bind on))
          | exact wpAny_bind on
      | @plain x c ts b suite np hp hs3 l3 hc hsu r ih =>
        rintro ⟨k, hk1, yes, no⟩
        refine wpAny_handleBy_cons (codeAny_handlers_test (asked hc ((PySem.W.exm_one (M := model X.prog X.w) J1.kIn isa hk1).here ?_))) (by intro q; cases q)
        cases k with
        | false => exact ih (no rfl)
        | true =>
          refine codeAny_handlers_suite (HandSPX.lands_againZ fl1 fun g4 fl4 up4 => ?_)
          have J4 : Inv X pins σ' H' { s' with heap := g4 } := J.landed nb fl4.1 ((up.trans up1).trans up4) os ag
          obtain ⟨oe4, vs4, ho4, hz4, hd4⟩ := fl4.there
          refine wpAny_mono ((hsu a oe4 cls d (X.pn ++ pins) hz4 ⟨_, hd4⟩).run [] _ _ H' _ (J4.suite ho4 hd4 na nL nF) (yes rfl a na)) (fun fl s6 q => ?_) fun _ _ z => z.elim
          cases fl with
          | next =>
            obtain ⟨σ6, H6, S6, q6⟩ := q
            exact ⟨σ6, H6, S6.unsuite ok, q6⟩
          | brk =>
            obtain ⟨σ6, H6, S6, q6⟩ := q
            exact ⟨σ6, H6, S6.unsuite ok, q6⟩
          | cont =>
            obtain ⟨σ6, H6, S6, q6⟩ := q
            exact ⟨σ6, H6, S6.unsuite ok, q6⟩
          | ret u =>
            obtain ⟨v6, σ6, H6, S6, r6, q6⟩ := q
            exact ⟨v6, σ6, H6, S6.unsuite ok, r6, q6⟩
      | @named x n c i ts b suite np hp hs3 l3 hc hi hn hsu r ih =>
        rintro ⟨k, hk1, yes, no⟩
        refine wpAny_handleBy_cons (codeAny_handlers_test (asked hc ((PySem.W.exm_one (M := model X.prog X.w) J1.kIn isa hk1).here ?_))) (by intro q; cases q)
        cases k with
        | false => exact ih (no rfl)
        | true =>
          refine codeAny_handlers_suite_as (HandSPX.lands_againZ fl1 fun g4 fl4 up4 => ?_)
          have J4 : Inv X pins σ' H' { s' with heap := g4 } := J.landed nb fl4.1 ((up.trans up1).trans up4) os ag
          obtain ⟨oe4, vs4, ho4, hz4, hd4⟩ := fl4.there
          refine store_ok (X := X.suite a ((a, oe4) :: (X.pn ++ pins))) (v := .ref a) (J4.suite ho4 hd4 na nL nF) hN hi (.inl hn) rfl (fun s5 S5 => ?_) (.inr hn)
          refine wpAny_mono ((hsu a oe4 cls d (X.pn ++ pins) hz4 ⟨_, hd4⟩).run [] s5 _ H' _ S5 (yes rfl a na)) (fun fl s6 q => ?_) fun _ _ z => z.elim
          have out : ∀ {σ6 : L2.St} {H6 : Hp} {Q : Shared → Prop}, Inv (X.suite a ((a, oe4) :: (X.pn ++ pins))) [] σ6 H6 s6 → (∀ s7, Inv X pins (σ6.set i none) H6 s7 → Q s7) → wpAny (model X.prog X.w) X.A (do bindName X.env n .none; unbindBehindTheSuite X.env n hp) (fun _ s7 => Q s7) X.xe s6 := fun S6 hq => gone_ok (S6.unsuite ok) hN hi hn hq
          cases fl with
          | next =>
            obtain ⟨σ6, H6, S6, q6⟩ := q
            exact out S6 fun s7 J7 => ⟨_, _, J7, q6⟩
          | brk =>
            obtain ⟨σ6, H6, S6, q6⟩ := q
            exact out S6 fun s7 J7 => ⟨_, _, J7, q6⟩
          | cont =>
            obtain ⟨σ6, H6, S6, q6⟩ := q
            exact out S6 fun s7 J7 => ⟨_, _, J7, q6⟩
          | ret u =>
            obtain ⟨v6, σ6, H6, S6, r6, q6⟩ := q
            exact out S6 fun s7 J7 => ⟨_, _, _, J7, r6, q6⟩
    exact walk hcl wish
end
end DL
/-! DXc: __init__ of one and of two fields; raise; try, as programs. -/
namespace DL
open PySem PySem.Spec PyProof.Rows L2

/-! ### the __init__s -/
def spI2 (C : Addr) (f1 f2 : Str) : Sp := fun vs H Q _ => ∃ a y1 y2, vs = [V.ref a, y1, y2] ∧ H a = some (exo a C none) ∧ ∀ d, H d = none → d ≠ a → Q .non (upd (upd (upd H d (exd d [(f1, y1)])) a (exo a C (some d))) d (exd d [(f2, y2), (f1, y1)]))
def spI1 (C : Addr) (f1 : Str) : Sp := fun vs H Q _ => ∃ a y1, vs = [V.ref a, y1] ∧ H a = some (exo a C none) ∧ ∀ d, H d = none → d ≠ a → Q .non (upd (upd H d (exd d [(f1, y1)])) a (exo a C (some d)))
section
variable {P : Program} {w : World} {K : PySem.W.Frag} {mg : Str → Option Value} {base : Heap} {k : Nat} {f C cc cda : Addr} {name qual f1 f2 : Str} {params : Arguments} {scope : Scope} {dV kV doc pm ct oc : Value} {an od : Option Addr} {osl : Array (Option Value)} {ps : List Str}
  {p0 p1 ap cp ep a1 a2 b1 b2 b3 b4 c1 c2 c3 c4 : Pos}
theorem init2 (lk : K.lookup f = some ⟨oc, od, .func (PySem.W.ksFn name qual params [.Expr (.Call (.Attribute (.Call (.Name "super" p0) [] [] p1) "__init__" ap) [.Name f1 a1, .Name f2 a2] [] cp) ep,
      .Assign [.Attribute (.Name "self" b1) f1 b2] (.Name f1 b3) b4, .Assign [.Attribute (.Name "self" c1) f2 c2] (.Name f2 c3) c4] scope dV kV doc pm an (.ref cda) ct cc), osl⟩) (hcd : PySem.W.codeIn K (.ref cda) qual = true)
    (S : ScopeI ["self", f1, f2] ["self", f1, f2] scope) (Z : SupC P K C cc cda mg) {ar : Arg} (hpar : (params.posonlyargs ++ params.args).head? = some ar) (hself : ar.arg = "self")
    (n1 : PySem.W.findIn K (.ref C) f1 = some none) (n2 : PySem.W.findIn K (.ref C) f2 = some none)
    (d1 : (f1 == ("__debug__" : Str)) = false ∧ (f1 == ("__classdict__" : Str)) = false) (d2 : (f2 == ("__debug__" : Str)) = false ∧ (f2 == ("__classdict__" : Str)) = false)
    (hsw : ∀ env : Env, swapsWith (.Call (.Attribute (.Call (.Name "super" p0) [] [] p1) "__init__" ap) [.Name f1 a1, .Name f2 a2] [] cp) none ep.line env = pure false)
    (hw1 : ∀ env : Env, swapsWith (.Name f1 b3) (some (.Attribute (.Name "self" b1) f1 b2)) b4.line env = pure false) (hw2 : ∀ env : Env, swapsWith (.Name f2 c3) (some (.Attribute (.Name "self" c1) f2 c2)) c4.line env = pure false)
    (pl : Env → Sem Bool) (hev : ∀ env : Env, eval (.Call (.Attribute (.Call (.Name "super" p0) [] [] p1) "__init__" ap) [.Name f1 a1, .Name f2 a2] [] cp) env = (do
      let ov ← attributeBase (.Call (.Name "super" p0) [] [] p1) "__init__" env (eval (.Call (.Name "super" p0) [] [] p1) env)
      standAt ap.atName
      let (f, first) ← holding [ov] (getMethod ov "__init__" (pl env))
      callWith cp f first (backTo cp (starEach [.Name f1 a1, .Name f2 a2] env)) [])) :
    FnOk P w K mg base (L2.CX P w) (k + 1) f (PySem.W.ksFn name qual params [.Expr (.Call (.Attribute (.Call (.Name "super" p0) [] [] p1) "__init__" ap) [.Name f1 a1, .Name f2 a2] [] cp) ep,
      .Assign [.Attribute (.Name "self" b1) f1 b2] (.Name f1 b3) b4, .Assign [.Attribute (.Name "self" c1) f2 c2] (.Name f2 c3) c4] scope dV kV doc pm an (.ref cda) ct cc) ["self", f1, f2] (spI2 C f1 f2) := by
  refine fn_sup (C := C) lk hcd S Z (fun vs H Q E h => ?_) hpar (by rw [hself]; rfl) (by intro _; rfl) (by intro _; rfl) hsw pl hev fun A outer s H vs Q E h => ?_
  · obtain ⟨a, y1, y2, rfl, _⟩ := h
    rfl
  · obtain ⟨a, y1, y2, rfl, ea, hq⟩ := h
    have l1 : Vis scope f1 := .inl (S.par f1 (by simp))
    have l2 : Vis scope f2 := .inl (S.par f2 (by simp))
    have l0 : Vis scope "self" := .inl (S.par "self" (by simp))
    have v1 : ∀ {p : Pos}, PE (cxI P w K mg base ["self", f1, f2] qual scope f (.ref cda) cc A outer s H E) (.Name f1 p) (tVar 1) := fun {p} => pe_var rfl l1 d1.1 d1.2
    have v2 : ∀ {p : Pos}, PE (cxI P w K mg base ["self", f1, f2] qual scope f (.ref cda) cc A outer s H E) (.Name f2 p) (tVar 2) := fun {p} => pe_var rfl l2 d2.1 d2.2
    have v0 : ∀ {p : Pos}, PE (cxI P w K mg base ["self", f1, f2] qual scope f (.ref cda) cc A outer s H E) (.Name "self" p) (tVar 0) := fun {p} => pe_var rfl l0
    refine ⟨a, [y1, y2], _, _, rfl, ea, pa_cons v1 (pa_cons v2 pa_nil), pss_cons (ps_ost v0 v1 (hw1 _)) (pss_one (ps_ost v0 v2 (hw2 _))), ?_⟩
    refine ⟨y1, rfl, y2, rfl, by show [y1, y2].length ≤ 1000; simp, ea, y1, rfl, .ref a, rfl, a, C, rfl, Z.oex, n1, .inl ⟨ea, fun dx hd hne => ?_⟩⟩
    refine ⟨y2, rfl, .ref a, rfl, a, C, rfl, Z.oex, n2, .inr ⟨dx, [(f1, y1)], upd_same, ?_, by simp, ?_⟩⟩
    · rw [upd_ne hne, upd_same]
    · exact hq dx hd hne
end

/-! ### raise -/
def raiseS (name : Str) (fs : List Str) (m : AM) : SM := fun ds G => eS (m ds G) ds fun vs G1 => match datas vs with
  | some xs => if xs.length = fs.length then .exn ⟨name, (fs.zip xs).reverse⟩ ds G1 else .bad
  | none => .bad
def raise0S (name : Str) : SM := fun ds G => .exn ⟨name, []⟩ ds G
section
variable {X : Cx} {T : List (Addr × Str)} {W : WX} {pos p : Pos} {e a b c : Expr} {es : List Expr} {ma mb mc : EM} {m : AM}
/-- X(), X an own class without own __init__ -/
theorem pmk_own0 {x : Str} {C : Addr} {bmB : List Value} {B newId initId : String} (F : ExcBaseFacts B newId initId bmB) (q : PySem.W.excIn X.K C bmB newId = true) (gC : X.mg x = some (.ref C)) (kC : PySem.W.keepIn X.K (.ref C) = true) (r : Raises X (.ref C)) (hg : Gl X x)
    (hdb : (x == ("__debug__" : Str)) = false := by decide) : PMk X (.Call (.Name x p) [] [] pos) (fun _ H Q => Q (.ref C) none H) := by
  intro pins s σ H Q I h
  refine wpAny_Call_Name_kw (ld_glob I hg gC ?_ hdb)
  refine PySem.W.callWith_K0 I.kIn kC ?_
  show wpAny _ _ (call (.ref C) []) _ _ _
  obtain ⟨bm, N, nm, qn, bs, hdct, sn, sub, ab, col, dd, k0, k1, k2, k3, k5, mN, hC, hN, hni, T⟩ := exc_obj I.kIn q
  exact wpAny_call_exc_subT F T hC hN hni (fun h' e hm => mk_of I hm r h (I.hok.gone hm.new)) (Nat.zero_le _)
theorem s_raise0 {p2 : Pos} {x : Str} {C : Addr} {bmB : List Value} {B newId initId : String} (hc : X.calm = true) (tk : Takes X W) (F : ExcBaseFacts B newId initId bmB) (q : PySem.W.excIn X.K C bmB newId = true) (gC : X.mg x = some (.ref C)) (kC : PySem.W.keepIn X.K (.ref C) = true) (r : Raises X (.ref C)) (hg : Gl X x)
    (hdb : (x == ("__debug__" : Str)) = false := by decide) : PS X (.Raise (some (.Call (.Name x p) [] [] pos)) none p2) (tS X.K X.mg T W (raise0S x)) :=
  ps_weak (ps_raise hc tk (pmk_own0 F q gC kC r hg hdb)) fun D σ H h => by
    obtain ⟨μ, ds, G, hs, g, p⟩ := h
    exact p (.ref C) none σ H μ (.refl _ _) ⟨C, rfl, gC, .inl rfl⟩ hs g
theorem zip_of {ys : List V} {fs : List Str} {xs : List PyData} {K : PySem.W.Frag} {H : Hp} {μ : List Addr} (r : IsPs K H μ ys xs) (hl : xs.length = fs.length) : ((fs.zip ys).reverse).map (·.1) = ((fs.zip xs).reverse).map (·.1) ∧ IsPs K H μ (((fs.zip ys).reverse).map (·.2)) (((fs.zip xs).reverse).map (·.2)) := by
  rw [List.map_reverse, List.map_reverse, List.map_reverse, List.map_reverse, List.map_fst_zip (by rw [r.length]; omega), List.map_fst_zip (by omega), List.map_snd_zip (by rw [r.length]; omega), List.map_snd_zip (by omega)]
  exact ⟨rfl, r.reverse⟩
theorem s_raise2 {x f1 f2 : Str} {C fI : Addr} {k : Nat} {fd : FuncData} {p2 : Pos} (hc : X.calm = true) (tk : Takes X W) (O : OexC X.K C) (iC : PySem.W.findIn X.K (.ref C) "__init__" = some (some (.ref fI))) (tI : PySem.W.typeIn X.K (.ref fI) = some (.type "function"))
    (F1 : FnOk X.prog X.w X.K X.mg X.base (L2.CX X.prog X.w) k fI fd ["self", f1, f2] (spI2 C f1 f2)) (hr : Room (k + 1) X.A) (hb : Binds X.K fd ["self", f1, f2] []) (hg : Gl X x) (hm : X.mg x = some (.ref C)) (ha : PA X [a, b] (tL X.K X.mg T W m)) (hln : LenA 2 m)
    (hdb : (x == ("__debug__" : Str)) = false := by decide) (he : starEach [a, b] X.env = (false, eval a X.env) :: starEach [b] X.env := by rfl) (hpl : (backTo pos (starEach [b] X.env)).any (·.1) = false := by rfl) :
    PS X (.Raise (some (.Call (.Name x p) [a, b] [] pos)) none p2) (tS X.K X.mg T W (raiseS x [f1, f2] m)) :=
  ps_weak (ps_raise hc tk (pmk_oex (ds := []) (dvs := []) O iC tI F1 hr hb .nil (fun _ _ _ _ _ _ _ z => by
      obtain ⟨_, _, _, _, _, _, _, _, _, _, _, _, hf⟩ := z
      exact hf.elim) hg hm ha hdb he hpl)) fun D σ H h => by
    obtain ⟨μ, ds, G, hs, g, p⟩ := h
    have p' : SPost X.K X.mg T W D μ H (eS (m ds G) ds fun vs G1 => match datas vs with | some xs => if xs.length = [f1, f2].length then .exn ⟨x, ([f1, f2].zip xs).reverse⟩ ds G1 else .bad | none => .bad) := p
    refine ⟨μ, ds, G, hs, g, ?_⟩
    cases em : m ds G with
    | bad => rw [em] at p'; exact p'.elim
    | exn y G1 => rw [em] at p'; exact fun c d H2 μ2 s2 xr g2 => p' c d σ H2 μ2 s2 xr (hs.mono s2) g2
    | ok vs G1 =>
      rw [em, eS_ok] at p'
      have h2 := hln _ _ _ _ em
      rintro ys H1 μ1 s1 r1 g1
      cases ed : datas vs with
      | none => rw [ed] at p'; exact p'.elim
      | some xs =>
        rw [ed] at p'
        simp only at p'
        split at p'
        · rename_i hl
          have ps := datas_ps r1 ed
          have hl2 : ys.length = 2 := by rw [ps.length, hl]; rfl
          refine ⟨by omega, fun a1 ha1 => ?_⟩
          match ys, hl2, ps with
          | [y1, y2], _, ps =>
            refine ⟨a1, y1, y2, rfl, upd_same, fun dd hd hne => ⟨rfl, dd, [(f2, y2), (f1, y1)], ?_, upd_same, ?_, ?_⟩⟩
            · rw [upd_ne (Ne.symm hne), upd_same]
            · rw [upd_ne hne] at hd
              exact hd
            · rw [upd_ne hne] at hd
              have eH : upd (del (upd (upd (upd (upd H1 a1 (exo a1 C none)) dd (exd dd [(f1, y1)])) a1 (exo a1 C (some dd))) dd (exd dd [(f2, y2), (f1, y1)])) a1) dd (HO.xd [(f2, y2), (f1, y1)]) = upd H1 dd (HO.xd [(f2, y2), (f1, y1)]) := by
                funext z
                by_cases z1 : z = dd
                · rw [z1, upd_same, upd_same]
                · rw [upd_ne z1, upd_ne z1]
                  by_cases z2 : z = a1
                  · rw [z2, del_same, ha1]
                  · rw [del_ne z2, upd_ne z1, upd_ne z2, upd_ne z1, upd_ne z2]
              rw [eH]
              have st : Step μ1 H1 μ1 (upd H1 dd (HO.xd [(f2, y2), (f1, y1)])) := .fresh hd
              obtain ⟨z1, z2⟩ := zip_of ps hl
              refine p' (.ref C) (some dd) σ _ μ1 (s1.trans st) ⟨C, rfl, hm, .inr ⟨dd, _, rfl, upd_same, g1.notin hd, z1, IsPs.mono st z2⟩⟩ ((hs.mono s1).mono st) (g1.fresh hd)
        · exact p'.elim
end

/-! ### try -/
/-- a clause: does it catch (by the exception's name); a suite, or «return ('z', e.f, e.g)» -/
inductive HM where
  | plain (mt : Str → Option Bool) (sb : SM)
  | tell (mt : Str → Option Bool) (i : Nat) (cn z f1 f2 : Str)
def look2 (f1 f2 : Str) (x : XD) : Option (PyData × PyData) := match x.fs.lookup f1, x.fs.lookup f2 with
  | some a, some b => some (a, b)
  | _, _ => none
def noX : SR → SR
  | .exn _ _ _ => .bad
  | r => r
def handM : List HM → XD → Sl → Ms → SR
  | [], x, ds, G => .exn x ds G
  | .plain mt sb :: r, x, ds, G => match mt x.name with
    | some true => noX (sb ds G)
    | some false => handM r x ds G
    | none => .bad
  | .tell mt i cn z f1 f2 :: r, x, ds, G => match mt x.name with
    | some true => if x.name = cn ∧ i < ds.length then (match look2 f1 f2 x with
      | some (a, b) => .rt (.d (.tuple [.str z, a, b])) G
      | none => .bad) else .bad
    | some false => handM r x ds G
    | none => .bad
def tryS (sb : SM) (hs : List HM) : SM := fun ds G => match sb ds G with
  | .exn x ds1 G1 => handM hs x ds1 G1
  | r => r
/-- the clause catches as mt tells -/
def Mts (K : PySem.W.Frag) (mg : MgT) (c : Value) (mt : Str → Option Bool) : Prop := ∀ n b C, mt n = some b → mg n = some (.ref C) → PySem.W.exmOne K (.ref C) c = some b
inductive HmOk (X : Cx) (T : List (Addr × Str)) : List ExceptHandler → List HM → Prop
  | nil : HmOk X T [] []
  | plain {x : Str} {c : Value} {mt : Str → Option Bool} {sb : SM} {b : Stmt} {suite : List Stmt} {np hp : Pos} {hds : List ExceptHandler} {l : List HM} (hc : Names X x c) (hm : Mts X.K X.mg c mt)
      (hsu : ∀ (a : Addr) (oe : Obj) (pn : List (Addr × Obj)), PSs (X.suite a ((a, oe) :: pn)) (b :: suite) (tS X.K X.mg T W0 sb)) (r : HmOk X T hds l) :
      HmOk X T (.ExceptHandler (some (.Name x np)) none (b :: suite) hp :: hds) (.plain mt sb :: l)
  | tell {x n cn z f1 f2 : Str} {c : Value} {i C : Nat} {mt : Str → Option Bool} {np hp q1 q2 q3 q4 q5 q6 q7 : Pos} {j k : Nat} {hds : List ExceptHandler} {l : List HM} (hc : Names X x c) (hm : Mts X.K X.mg c mt) (hi : X.N[i]? = some n) (hn : X.env.scope.names.lookup n = some .local)
      (hC : X.mg cn = some (.ref C)) (T0 : XfC X.K C) (n1 : PySem.W.findIn X.K (.ref C) f1 = some none) (n2 : PySem.W.findIn X.K (.ref C) f2 = some none) (hd : (n == ("__debug__" : Str)) = false ∧ (n == ("__classdict__" : Str)) = false)
      (b1 : attributeBase (.Name n q2) f1 X.env (eval (.Name n q2) X.env) = eval (.Name n q2) X.env) (b2 : attributeBase (.Name n q3) f2 X.env (eval (.Name n q3) X.env) = eval (.Name n q3) X.env) (r : HmOk X T hds l) :
      HmOk X T (.ExceptHandler (some (.Name x np)) (some n) [.Return (some (.Tuple [.Constant (.str z) j q1, .Attribute (.Name n q2) f1 q4, .Attribute (.Name n q3) f2 q5] k q6)) q7] hp :: hds) (.tell mt i cn z f1 f2 :: l)
theorem look_rel {K : PySem.W.Frag} {H : Hp} {μ : List Addr} : ∀ {fs : List (Str × V)} {gs : List (Str × PyData)} {f : Str} {d : PyData}, fs.map (·.1) = gs.map (·.1) → IsPs K H μ (fs.map (·.2)) (gs.map (·.2)) → gs.lookup f = some d → ∃ v, fs.lookup f = some v ∧ IsP K H μ v d
  | [], [], _, _, _, _, e => by cases e
  | [], _ :: _, _, _, h, _, _ => by cases h
  | _ :: _, [], _, _, h, _, _ => by cases h
  | (k, v) :: fs, (k', d') :: gs, f, d, h, r, e => by
    simp only [List.map_cons, List.cons.injEq] at h
    obtain ⟨rfl, h⟩ := h
    cases r with
    | cons a b =>
      rw [List.lookup_cons] at e ⊢
      cases hb : f == k with
      | true =>
        rw [hb] at e
        cases e
        exact ⟨v, rfl, a⟩
      | false =>
        rw [hb] at e
        exact look_rel h b e
section
variable {X : Cx} {T : List (Addr × Str)} {W : WX} {pos : Pos} {body : List Stmt} {hd : ExceptHandler} {hds : List ExceptHandler} {sb : SM} {l : List HM}
theorem hm_cla (h : HmOk X T hds l) : ∃ l', ClaOk X hds l' ∧ ∀ (D : Ends) (x : XD) (ds : Sl) (G : Ms) (c : Value) (d : Option Addr) (σ : L2.St) (μ : List Addr) (H : Hp), SPost X.K X.mg T W D μ H (handM l x ds G) → XR X.K X.mg H μ c d x → SL X.K H μ σ ds → GR X.K T H μ G → wCla X.K W D l' c d σ H := by
  induction h with
  | nil => exact ⟨[], .nil, fun D x ds G c d σ μ H p xr hs g => p c d σ H μ (.refl _ _) xr hs g⟩
  | @plain x c mt sb b suite np hp hds l hc hm hsu r ih =>
    obtain ⟨l', ok, h2⟩ := ih
    refine ⟨⟨c, none, fun _ _ _ => tS X.K X.mg T W0 sb⟩ :: l', .plain hc (fun a oe cls d pn _ _ => hsu a oe pn) ok, fun D x ds G cl d σ μ H p xr hs g => ?_⟩
    obtain ⟨C, rfl, hC, _⟩ := id xr
    unfold handM at p
    cases e : mt x.name with
    | none => rw [e] at p; exact p.elim
    | some k =>
      rw [e] at p
      refine ⟨k, hm _ _ _ e hC, fun z a ha => ?_, fun z => ?_⟩
      · subst z
        refine ⟨μ, ds, G, hs, g, ?_⟩
        have p' : SPost X.K X.mg T W D μ H (noX (sb ds G)) := p
        show SPost X.K X.mg T W0 D μ H (sb ds G)
        cases es : sb ds G with
        | exn y ds1 G1 => rw [es] at p'; exact p'.elim
        | nx ds1 G1 => rw [es] at p'; exact p'
        | bk ds1 G1 => rw [es] at p'; exact p'
        | ct ds1 G1 => rw [es] at p'; exact p'
        | rt v G1 => rw [es] at p'; exact p'
        | bad => rw [es] at p'; exact p'
      · subst z
        exact h2 D x ds G _ d σ μ H p xr hs g
  | @tell x n cn z f1 f2 c i C mt np hp q1 q2 q3 q4 q5 q6 q7 j k hds l hc hm hi hn hC T0 n1 n2 hd b1 b2 r ih =>
    obtain ⟨l', ok, h2⟩ := ih
    refine ⟨⟨c, some i, fun a cls d => tRet (tTup (tCons (tC (.str z)) (tCons (tXf a cls d C f1 (tVar i)) (tCons (tXf a cls d C f2 (tVar i)) tNil))))⟩ :: l', .named hc hi hn (fun a oe cls d pn hz hf => ?_) ok, fun D x ds G cl d σ μ H p xr hs g => ?_⟩
    · have vv : ∀ {q : Pos}, PE (X.suite a ((a, oe) :: pn)) (.Name n q) (tVar i) := fun {q} => pe_var (X := X.suite a ((a, oe) :: pn)) hi (.inl hn) hd.1 hd.2
      exact pss_one (ps_ret (pe_tup (pa_cons pe_str (pa_cons (pe_xf T0 n1 hz hf vv b1) (pa_cons (pe_xf T0 n2 hz hf vv b2) pa_nil)))))
    · obtain ⟨C', rfl, hC', hx⟩ := id xr
      unfold handM at p
      cases e : mt x.name with
      | none => rw [e] at p; exact p.elim
      | some k =>
        rw [e] at p
        refine ⟨k, hm _ _ _ e hC', fun z a ha => ?_, fun z => ?_⟩
        · subst z
          simp only at p
          split at p
          · rename_i hcn
            cases el : look2 f1 f2 x with
            | none => rw [el] at p; exact p.elim
            | some q =>
              obtain ⟨v1, v2⟩ := q
              rw [el] at p
              have el' : (match x.fs.lookup f1, x.fs.lookup f2 with | some a, some b => some (a, b) | _, _ => none) = some (v1, v2) := el
              cases e1 : x.fs.lookup f1 with
              | none => rw [e1] at el'; cases el'
              | some w1 =>
                cases e2 : x.fs.lookup f2 with
                | none => rw [e1, e2] at el'; cases el'
                | some w2 =>
                  rw [e1, e2] at el'
                  cases el'
                  rw [hcn.1, hC] at hC'
                  cases hC'
                  rcases hx with hx | ⟨dx, fs, rfl, hdx, nd, hk, hv⟩
                  · rw [hx] at e1
                    cases e1
                  · obtain ⟨u1, k1, r1⟩ := look_rel hk hv e1
                    obtain ⟨u2, k2, r2⟩ := look_rel hk hv e2
                    have hil : i < σ.length := by rw [hs.len]; exact hcn.2
                    have hget : (comeS (some i) a σ)[i]? = some (some (.ref a)) := List.getElem?_set_self hil
                    refine ⟨.ref a, hget, rfl, rfl, dx, fs, u1, rfl, hdx, k1, .ref a, hget, rfl, rfl, dx, fs, u2, rfl, hdx, k2, by show 3 ≤ sizeLine; decide, fun pp hp => ?_⟩
                    have st : Step μ H μ (upd H pp (.tup [.str z, u1, u2])) := .fresh hp
                    exact p _ _ μ st (IsP.tup ⟨upd_same, g.notin hp⟩ (.cons (.str _) (.cons (IsP.mono st r1) (.cons (IsP.mono st r2) .nil)))) (g.fresh hp)
          · exact p.elim
        · subst z
          exact h2 D x ds G _ d σ μ H p xr hs g
theorem s_try (hst : X.stack = X.env :: X.outer) (hfr : X.env.frame = some X.env.locals) (hN : X.N.Nodup) (tk : Takes X W)
    (hb : ∀ (W : WX) (pn : List (Addr × Obj)) (xe : Value → Shared → Prop), Takes (X.tr pn xe) W → PassesOwn (model X.prog X.w) X.A X.env xe → PSs (X.tr pn xe) body (tS X.K X.mg T W sb))
    (hcl : HmOk X T (hd :: hds) l) : PS X (.Try body (hd :: hds) [] [] pos) (tS X.K X.mg T W (tryS sb l)) := by
  obtain ⟨l', ok, h2⟩ := hm_cla (W := W) hcl
  refine ps_weak (ps_tryC hst hfr hN tk (tb := fun W => tS X.K X.mg T W sb) hb ok) fun D σ H h => ?_
  obtain ⟨μ, ds, G, hs, g, p⟩ := h
  refine ⟨μ, ds, G, hs, g, ?_⟩
  have p' : SPost X.K X.mg T W D μ H (match sb ds G with | .exn x ds1 G1 => handM l x ds1 G1 | r => r) := p
  show SPost X.K X.mg T (wCla X.K W D l') D μ H (sb ds G)
  cases es : sb ds G with
  | exn x ds1 G1 =>
    rw [es] at p'
    exact fun c d σ1 H1 μ1 s1 xr hs1 g1 => h2 D x ds1 G1 c d σ1 μ1 H1 (SPost.step p' s1) xr hs1 g1
  | nx ds1 G1 => rw [es] at p'; exact p'
  | bk ds1 G1 => rw [es] at p'; exact p'
  | ct ds1 G1 => rw [es] at p'; exact p'
  | rt v G1 => rw [es] at p'; exact p'
  | bad => rw [es] at p'; exact p'
end
end DL
/-! DXd: f(lambda: body), f's body «try: return ('z', act()) / except ..: ..». -/
namespace DL
open PySem PySem.Spec PyProof.Rows L2 LamX

def HmSpec (K : PySem.W.Frag) (mg : MgT) (T : List (Addr × Str)) (l : List HM) (l' : List Cla) : Prop := ∀ (D : Ends) (x : XD) (ds : Sl) (G : Ms) (c : Value) (d : Option Addr) (σ : L2.St) (μ : List Addr) (H : Hp), SPost K mg T W0 D μ H (handM l x ds G) → XR K mg H μ c d x → SL K H μ σ ds → GR K T H μ G → wCla K W0 D l' c d σ H
def rtM : SR → ER DV
  | .rt v G => .ok v G
  | _ => .bad
def toldE (z : Str) (ng : Nat) (mb : EM) (hs : List HM) : EM := fun ds G => match mb ds G with
  | .ok (.d x) G1 => .ok (.d (.tuple [.str z, x])) G1
  | .ok _ _ => .bad
  | .exn x G1 => rtM (handM hs x (List.replicate ng none) G1)
  | .bad => .bad
/-- what the giver makes of the lambda's reading -/
def TTt (K : PySem.W.Frag) (mg : MgT) (T : List (Addr × Str)) (z : Str) (ng : Nat) (l : List HM) : (XK → Hp → VK → Prop) → Hp → VK → Prop := fun tl H Q =>
  ∀ l', HmSpec K mg T l l' → tl (fun cls d H' => ∀ σ' : L2.St, σ'.length = ng → wCla K W0 { nx := fun _ H' => Q .non H', rt := Q } l' cls d σ' H') H fun v H1 => ∀ p, H1 p = none → Q (.ref p) (upd H1 p (.tup [.str z, v]))
theorem takes_len {X : Cx} {W : WX} (tk : Takes X W) {n : Nat} (h : X.N.length = n) : Takes X fun cls d σ H => σ.length = n → W cls d σ H := fun u s' ⟨a, B, sI, pins, σ, H, cls, d, e, I, nb, up, sky, na, os, ag, w⟩ =>
  tk u s' ⟨a, B, sI, pins, σ, H, cls, d, e, I, nb, up, sky, na, os, ag, w (I.len.trans h)⟩
section
variable {X : Cx} {T : List (Addr × Str)}
/-- the giver: def f(act): try: return ('z', act()) / except .. -/
theorem told_gives {Ng : List Str} {x a q z : Str} {sg : Scope} {g : Addr} {cdg : Value} {bg : List Stmt} {hd : ExceptHandler} {hds : List ExceptHandler} {l : List HM} {j k : Nat} {p1 p2 p3 p4 p5 p8 : Pos}
    (hbg : bg = [.Try [.Return (some (.Tuple [.Constant (.str z) j p3, .Call (.Name a p1) [] [] p2] k p4)) p5] (hd :: hds) [] [] p8]) (hN : Ng.Nodup) (hlen : 1 ≤ Ng.length)
    (hcl : ∀ (s : Shared) (H : Hp), HmOk (cxOf C8.CX0 X.prog X.w X.K X.mg X.base Ng x sg g cdg X.A X.stack s H C8.E0).nox T (hd :: hds) l) :
    GivesTo X Ng x sg g cdg bg a q (TTt X.K X.mg T z Ng.length l) := by
  intro f c' s H Q tl act hc h
  subst hbg
  obtain ⟨l', ok, h2⟩ := hm_cla (W := W0) (hcl s H)
  have h0 : (L2.start Ng [V.ref f])[0]? = some (some (V.ref f)) := rfl
  have hl0 : (L2.start Ng [V.ref f]).length = Ng.length := by
    unfold L2.start
    rw [List.length_append, List.length_map, List.length_replicate]
    simp
    omega
  refine ⟨_, pss_one (ps_tryC (X := (cxOf C8.CX0 X.prog X.w X.K X.mg X.base Ng x sg g cdg X.A X.stack s H C8.E0).nox) (Wo := W0) (l := l')
      (tb := fun W D σ H => ∃ Ech : XK, (∀ cls d σ' H', Ech cls d H' → σ'.length = Ng.length → W cls d σ' H') ∧ σ[0]? = some (some (.ref f)) ∧ H c' = some (CodeO c' q) ∧ tl Ech H fun v H1 => ∀ p, H1 p = none → D.rt (.ref p) (upd H1 p (.tup [.str z, v])))
      rfl rfl hN LamX.takes0 (fun W pn xe tk _ => ?_) ok), ?_⟩
  · refine ⟨fun pins s' σ H' D I h' => ?_⟩
    obtain ⟨Ech, hW, i1, i2, i3⟩ := h'
    have hp := act (fun cls d σ' H' => σ'.length = Ng.length → W cls d σ' H') pn xe Ech p1 p2 (takes_len tk rfl) hW
    have hq := pss_one (ps_ret (pos := p5) (pe_tup (x1 := k) (pos := p4) (pa_cons (pe_str (j := j) (pos := p3) (x := z)) (pa_cons hp pa_nil))))
    refine hq.run pins s' σ H' D I ⟨i1, i2, ?_⟩
    have e : (fun (v : V) (H1 : Hp) => ([V.str z, v] : List V).length ≤ sizeLine ∧ ∀ p, H1 p = none → D.rt (.ref p) (upd H1 p (.tup [.str z, v]))) = fun v H1 => ∀ p, H1 p = none → D.rt (.ref p) (upd H1 p (.tup [.str z, v])) := by
      funext v H1
      exact propext ⟨fun h => h.2, fun h => ⟨by show 2 ≤ sizeLine; decide, h⟩⟩
    show tl Ech H' (fun (v : V) (H1 : Hp) => ([V.str z, v] : List V).length ≤ sizeLine ∧ ∀ p, H1 p = none → D.rt (.ref p) (upd H1 p (.tup [.str z, v])))
    rw [e]
    exact i3
  · refine ⟨fun cls d H' => ∀ σ' : L2.St, σ'.length = Ng.length → wCla X.K W0 { nx := fun _ H' => Q .non H', rt := Q } l' cls d σ' H', fun cls d σ' H' e hl => ?_, h0, hc, h l' h2⟩
    exact e σ' hl
theorem GR.extN {K : PySem.W.Frag} {H H1 : Hp} {μ : List Addr} {G : Ms} (g : GR K T H μ G) (e : ExtN H H1) (t : Tabs T H1) : Step μ H μ H1 ∧ GR K T H1 μ G := by
  have s : Step μ H μ H1 := ⟨List.prefix_refl _, fun a o _ h hh => e a o h fun ps z => by rw [z] at hh; exact hh, fun a h n => absurd h n⟩
  refine ⟨s, g.nd, g.len, fun i a o e1 e2 => ?_, t⟩
  have m := g.at_ i a o e1 e2
  cases o with
  | lst ds =>
    obtain ⟨vs, h1, h2⟩ := m
    exact ⟨vs, e _ _ h1 (fun ps z => nomatch z), IsPs.mono s h2⟩
/-- x(lambda: body) -/
theorem d_lam {W : WX} {z x a : Str} {g c P : Addr} {k ng : Nat} {pg : Arguments} {bg : List Stmt} {sg : Scope} {dV kV doc pm cdv ct oc : Value} {an od : Option Addr} {osl : Array (Option Value)} {Ng : List Str} {params : Arguments} {body : Expr} {scope : Scope} {mb : EM} {l : List HM} {p lpos pos : Pos}
    (hg : Gl X x) (hm : X.mg x = some (.ref g)) (hk : PySem.W.keepIn X.K (.ref g) = true) (lk : X.K.lookup g = some ⟨oc, od, .func (PySem.W.fnOf x x pg bg sg dV kV doc pm an cdv ct), osl⟩) (hcg : PySem.W.codeIn X.K cdv x = true) (hb : L2.Binds X.K (PySem.W.fnOf x x pg bg sg dV kV doc pm an cdv ct) [a] [])
    (Sg : FnScope Ng [a] sg) (hNg : Ng[0]? = some a) (hva : Vis sg a) (hG : GivesTo X Ng x sg g cdv bg a (X.env.qual ++ "<lambda>") (TTt X.K X.mg T z ng l))
    (TB : TabB X.base X.mg c P) (hcode : X.env.code = .ref c) (hmT : (P, X.env.qual ++ "<lambda>") ∈ T) (hu : ∀ p ∈ T, p.1 = P → p.2 = X.env.qual ++ "<lambda>") (hr : Room (k + 2) X.A) (L : LamS X.env.scope scope) (hdef : defaultsOf params X.env = ([], []))
    (hbind : ∀ (q : Str) (cl : List (Str × Addr)) (pm cv ctv : Value), bindArgs (PySem.W.kla_fn "<lambda>" q params body scope cl pm cv ctv) ⟨[], []⟩ = pure [])
    (hbody : ∀ (A : Around) (outer : List Env) (s : Shared) (H : Hp) (E : XK) (f c' : Addr), Room k (A.deeper (lamEnv X scope s.heap.objs.size f c')) → PE (lamCx X A outer s H E scope f c') body (tE X.K X.mg T (fun cls d _ H => E cls d H) mb))
    (hdb : (x == ("__debug__" : Str)) = false := by decide) (hd : (a == ("__debug__" : Str)) = false := by decide) (hcd : (a == ("__classdict__" : Str)) = false := by decide) :
    PE X (.Call (.Name x p) [.Lambda params body scope lpos] [] pos) (tE X.K X.mg T W (toldE z ng mb l)) :=
  pe_weak (pe_lamcall hg hm hk lk hcg hb Sg hNg hva hG TB hcode hmT hu hr L hdef hbind hbody hdb hd hcd) fun σ H Q h => by
    obtain ⟨μ, ds, G, hs, g, p⟩ := h
    refine ⟨g.tabs, fun H1 eN T1 l' hl' => ?_⟩
    obtain ⟨s1, g1⟩ := g.extN eN T1
    refine ⟨μ, ds, G, hs.mono s1, g1, ?_⟩
    have p1 := Post.step p s1
    unfold toldE at p1
    cases e : mb ds G with
    | bad => rw [e] at p1; exact p1.elim
    | ok v G1 =>
      rw [e] at p1
      cases v with
      | d x =>
        intro y H2 μ2 s2 r2 g2 pp hp
        have st : Step μ2 H2 μ2 (upd H2 pp (.tup [.str z, y])) := .fresh hp
        exact p1 _ _ μ2 (s2.trans st) (IsP.tup ⟨upd_same, g2.notin hp⟩ (.cons (.str _) (.cons (IsP.mono st r2) .nil))) (g2.fresh hp)
      | fn a => exact p1.elim
      | mr n => exact p1.elim
      | scr ns => exact p1.elim
    | exn x G1 =>
      rw [e] at p1
      intro cls d H2 μ2 s2 xr g2 σ' hσ
      refine hl' _ x (List.replicate ng none) G1 cls d σ' μ2 H2 ?_ xr ⟨by rw [hσ, List.length_replicate], fun i v ei => ?_⟩ g2
      · have p2 : Post X.K X.mg T (RV X.K) W σ μ2 H2 Q (rtM (handM l x (List.replicate ng none) G1)) := Post.step p1 s2
        cases eh : handM l x (List.replicate ng none) G1 with
        | rt v G2 => rw [eh] at p2; exact p2
        | nx ds2 G2 => rw [eh] at p2; exact p2.elim
        | bk ds2 G2 => rw [eh] at p2; exact p2.elim
        | ct ds2 G2 => rw [eh] at p2; exact p2.elim
        | exn y ds2 G2 => rw [eh] at p2; exact p2.elim
        | bad => rw [eh] at p2; exact p2.elim
      · rw [List.getElem?_replicate] at ei
        split at ei <;> cases ei
end
end DL
/-! DRa: repr; defs that ask what the callers' guards are; the end of a law. -/
namespace DL
open PySem PySem.Spec PyProof.Rows L2

/-! ### repr(x) -/
def reprF : CaF := fun vs G => match vs with
  | [v] => match datOf G v with
    | some x => if x.plain = true ∧ x.showable = true ∧ x.depth < 100 ∧ x.shown.length ≤ sizeLine then some (.d (.str x.shown), G) else none
    | none => none
  | _ => none
mutual
theorem plain_noDict : ∀ d : PyData, d.plain = true → d.hasDict = false
  | .none, _ => rfl
  | .bool _, _ => rfl
  | .int _, _ => rfl
  | .str _, _ => rfl
  | .list xs, h => by
    rw [PyData.hasDict]
    exact plain_noDicts xs (by simpa [PyData.plain] using h)
  | .tuple xs, h => by
    rw [PyData.hasDict]
    exact plain_noDicts xs (by simpa [PyData.plain] using h)
  | .dict _, h => by simp [PyData.plain] at h
theorem plain_noDicts : ∀ ds : List PyData, PyData.plainAll ds = true → PyData.hasDictAll ds = false
  | [], _ => rfl
  | d :: ds, h => by
    simp only [PyData.plainAll, Bool.and_eq_true] at h
    rw [PyData.hasDictAll, plain_noDict d h.1, plain_noDicts ds h.2]
    rfl
end
section
variable {X : Cx} {T : List (Addr × Str)}
theorem c_repr (hgd : X.A.guards = some []) (hu : X.A.units + 150 < cLine) : CallR X (.builtin "repr") (rC X.K T reprF) := by
  rintro pins s σ H ys us Q I ru ⟨μ, vs, G, w, G', r, g, e, o⟩
  unfold reprF at e
  split at e
  · rename_i v
    split at e
    · rename_i x ex
      split at e
      · rename_i hc
        cases e
        obtain ⟨y, rfl, r1⟩ := isVs1 r
        obtain ⟨u, rfl, ru'⟩ := vals1 ru
        obtain ⟨as, q⟩ := dat_reads I r1 g ex ru' hc.1
        have fin : ∀ {s' : Shared} {t : Tok}, Inv X pins σ H s' → EP X pins σ Q (.str x.shown t) s' := fun J => ⟨.str x.shown, H, J, ⟨_, rfl⟩, o.here g (.str _)⟩
        have big : ∀ {a : Addr}, Reads s.heap (.ref a) x as → wpAny (model X.prog X.w) X.A (call (.builtin "repr") [.ref a]) (EP X pins σ Q) X.xe s := fun q =>
          repr_of_reads' q hc.2.1 (PyData.noDict_hsm (plain_noDict x hc.1)) hgd (by omega) (fun _ _ e => e) (fun h' u tk hk => fin (I.kept (t' := tk) hk)) hc.2.2.2
        cases q with
        | none => exact PySem.P.repr_of_none (fin (I.tok _))
        | bool b =>
          refine PySem.P.repr_of_bool ?_
          have z := @fin
          cases b <;> exact z (I.tok _)
        | int i t => exact PySem.P.repr_of_int (of_decide_eq_true hc.2.1) (fin (I.tok _))
        | str z t => exact PySem.P.repr_of_str (fin (I.tok _)) hc.2.2.2
        | list h1 h2 h3 h4 => exact big (.list h1 h2 h3 h4)
        | tuple h1 h2 h3 h4 => exact big (.tuple h1 h2 h3 h4)
        | dict h1 h2 h3 h4 h5 => exact big (.dict h1 h2 h3 h4 h5)
      · cases e
    · cases e
  · cases e
end

/-! ### defs called where no guard stands above -/
structure FnG (P : Program) (w : World) (K : PySem.W.Frag) (mg : Str → Option Value) (base : Heap) (k : Nat) (f : Addr) (fd : FuncData) (ps : List Str) (sp : Sp) : Prop where
  len : ∀ vs H Q E, sp vs H Q E → vs.length = ps.length
  run : ∀ (A : Around) (outer : List Env) (s : Shared) (H : Hp) (args : Args) (us : List Value) (vs : List V) (Q : VK) (E : XK), A.guards = some [] → Room k A → Env0 P w K mg base A outer s H → BindsTo s fd args (ps.zip us) → Vals vs us → sp vs H Q E →
    codeAny (model P w) A (.call (.ref f) args) (CR (L2.CX P w) outer P w H s Q E) s
theorem FnG.mono {P : Program} {w : World} {K : PySem.W.Frag} {mg : Str → Option Value} {base : Heap} {j k : Nat} {f : Addr} {fd : FuncData} {ps : List Str} {sp : Sp} (F : FnG P w K mg base j f fd ps sp) (h : j ≤ k) : FnG P w K mg base k f fd ps sp :=
  ⟨F.len, fun A outer s H args us vs Q E g hr => F.run A outer s H args us vs Q E g (hr.mono h)⟩
section
variable {P : Program} {w : World} {K : PySem.W.Frag} {mg : Str → Option Value} {base : Heap} {T : List (Addr × Str)}
theorem FnG.imp {k : Nat} {f : Addr} {fd : FuncData} {ps : List Str} {sp sp' : Sp} (F : FnG P w K mg base k f fd ps sp) (h : ∀ vs H Q E, sp' vs H Q E → sp vs H Q E) : FnG P w K mg base k f fd ps sp' :=
  ⟨fun vs H Q E q => F.len vs H Q E (h _ _ _ _ q), fun A outer s H args us vs Q E g hr he hb hv hs => F.run A outer s H args us vs Q E g hr he hb hv (h _ _ _ _ hs)⟩
theorem fnG_eq {k : Nat} {f : Addr} {fd : FuncData} {ps : List Str} {n : Nat} {g h : FM} (F : FnG P w K mg base k f fd ps (spD K mg T n g)) (e : ∀ vs G, h vs G = .bad ∨ g vs G = h vs G) : FnG P w K mg base k f fd ps (spD K mg T n h) :=
  F.imp fun vs H Q E ⟨μ, us, G, r, gr, hl, p⟩ => by
    refine ⟨μ, us, G, r, gr, hl, ?_⟩
    rcases e us G with z | z
    · rw [z] at p; exact p.elim
    · rw [z]; exact p
theorem def_read {cut : Nat → DV → Ms → ER DV} {N : List Str} {m : SM} {μ : List Addr} {us : List DV} {G : Ms} {vs : List V} {H : Hp} {Q : VK} {E : XK} (hcut : CutOk cut) (r : IsVs K H μ vs us) (g : GR K T H μ G)
    (p : Post K mg T (RV K) (fun c d _ H' => E c d H') [] μ H Q (defW cut N.length m us G)) : tS K mg T (fun cls d _ H => E cls d H) m { nx := fun _ H' => Q .non H', rt := Q } (L2.start N vs) H := by
  refine ⟨μ, _, G, SL.start r, g, ?_⟩
  have p' : Post K mg T (RV K) (fun c d _ H' => E c d H') [] μ H Q (exitM cut G.length (m (us.map some ++ List.replicate (N.length - us.length) none) G)) := p
  have hm : μ.length = G.length := g.len
  cases e : m (us.map some ++ List.replicate (N.length - us.length) none) G with
  | nx ds2 G2 =>
    rw [e] at p'
    have p2 : Post K mg T (RV K) (fun c d _ H' => E c d H') [] μ H Q (cut G.length (.d .none) G2) := p'
    intro σ' H' μ' s' hs' g'
    cases ec : cut G.length (.d .none) G2 with
    | bad => rw [ec] at p2; exact p2.elim
    | exn x G3 => exact absurd ec (hcut.ne _ _ _ _ _)
    | ok v G3 =>
      rw [ec] at p2
      obtain ⟨μ2, s2, r2, g2⟩ := hcut.ok _ _ _ _ _ ec K T H H' μ μ' .non hm s' .none g'
      exact p2 .non H' μ2 s2 r2 g2
  | rt v G2 =>
    rw [e] at p'
    have p2 : Post K mg T (RV K) (fun c d _ H' => E c d H') [] μ H Q (cut G.length v G2) := p'
    intro y H' μ' s' hs' g'
    cases ec : cut G.length v G2 with
    | bad => rw [ec] at p2; exact p2.elim
    | exn x G3 => exact absurd ec (hcut.ne _ _ _ _ _)
    | ok v G3 =>
      rw [ec] at p2
      obtain ⟨μ2, s2, r2, g2⟩ := hcut.ok _ _ _ _ _ ec K T H H' μ μ' y hm s' hs' g'
      exact p2 y H' μ2 s2 r2 g2
  | exn x ds2 G2 =>
    rw [e] at p'
    intro c d σ' H' μ' s' xr hs' g'
    have g2 := g'.take G.length
    obtain ⟨s2, em⟩ := s'.cut
    rw [← hm, em] at g2
    rw [em] at s2
    rw [hm] at g2
    refine p' c d H' μ s2 ?_ g2
    obtain ⟨C, e1, e2, h⟩ := xr
    refine ⟨C, e1, e2, h.imp id ?_⟩
    rintro ⟨dx, fs, e3, e4, n, e5, r⟩
    exact ⟨dx, fs, e3, e4, fun z => n (s'.pre.subset z), e5, IsPs.sub (fun a h => s'.pre.subset h) r⟩
  | bk ds2 G2 => rw [e] at p'; exact p'.elim
  | ct ds2 G2 => rw [e] at p'; exact p'.elim
  | bad => rw [e] at p'; exact p'.elim
/-- a def of the text -/
theorem fnG_def {cut : Nat → DV → Ms → ER DV} {x qual : Str} {st : Stmt} {f : Addr} {fd : FuncData} {N ps : List Str} {k : Nat} {m : SM} (hcut : CutOk cut) (F : Fun K x qual st f fd) (S : FnScope N ps (defScope st))
    (hbody : ∀ (cdv : Value) (A : Around) (outer : List Env) (s : Shared) (H : Hp) (E : XK) (W : WX), A.guards = some [] → Room k (A.deeper (envOfC qual (defScope st) s.heap.objs.size f cdv)) → Takes (cxOf (L2.CX P w) P w K mg base N qual (defScope st) f cdv A outer s H E) W →
      PassesOwn (model P w) (A.deeper (envOfC qual (defScope st) s.heap.objs.size f cdv)) (envOfC qual (defScope st) s.heap.objs.size f cdv) (cxOf (L2.CX P w) P w K mg base N qual (defScope st) f cdv A outer s H E).xe →
      PSs (cxOf (L2.CX P w) P w K mg base N qual (defScope st) f cdv A outer s H E) (defBody st) (tS K mg T W m)) :
    FnG P w K mg base (k + 1) f fd ps (spD K mg T ps.length (defW cut N.length m)) := by
  refine ⟨fun vs H Q E h => ?_, fun A outer s H args us vs Q E hgd hr e0 hb rv h => ?_⟩
  · obtain ⟨μ, ws, G, r, g, hl, p⟩ := h
    exact r.length.trans hl
  · obtain ⟨μ, ws, G, r, g, hl, p⟩ := h
    obtain ⟨oc, od, kV, doc, pm, an, cdv, ct, osl, rfl, lk, hcd⟩ := F.ex
    exact LamX.run_ofS lk hcd S hr e0 hb rv (r.length.trans hl) fun hr' => ⟨_, hbody cdv A outer s H E (fun cls d _ H => E cls d H) hgd hr' (takes_of rfl rfl rfl rfl) (passes_of rfl), def_read hcut r g p⟩
end
section
variable {X : Cx} {T : List (Addr × Str)} {W : WX} {pos p : Pos} {e a b c : Expr} {es : List Expr} {ma mb mc : EM} {m : AM}
theorem d_callG {f : FM} {k n : Nat} {fa : Addr} {fd : FuncData} {ps : List Str} {x : Str} (F : FnG X.prog X.w X.K X.mg X.base k fa fd ps (spD X.K X.mg T n f)) (hgd : X.A.guards = some []) (tk : Takes X W) (hr : Room k X.A) (hg : Gl X x) (hm : X.mg x = some (.ref fa)) (hk : PySem.W.keepIn X.K (.ref fa) = true)
    (hb : Binds X.K fd ps []) (ha : PA X (e :: es) (tL X.K X.mg T W m)) (hn : n = ps.length) (hln : LenA n m) (hdb : (x == ("__debug__" : Str)) = false := by decide)
    (he : starEach (e :: es) X.env = (false, eval e X.env) :: starEach es X.env := by rfl) (hpl : (backTo pos (starEach es X.env)).any (·.1) = false := by rfl) : PE X (.Call (.Name x p) (e :: es) [] pos) (tE X.K X.mg T W (fnE f m)) :=
  ⟨fun pins s σ H Q I h => by
    have h2 : tL X.K X.mg T W m σ H fun xs H1 => spD X.K X.mg T n f xs H1 Q (WE W σ) := by
      obtain ⟨μ, ds, G, hs, g, p⟩ := h
      refine ⟨μ, ds, G, hs, g, ?_⟩
      have p' : Post X.K X.mg T (RV X.K) W σ μ H Q ((m ds G).bind fun vs G1 => f vs G1) := p
      cases em : m ds G with
      | bad => rw [em] at p'; exact p'.elim
      | exn y G1 => rw [em] at p'; exact p'
      | ok vs G1 =>
        rw [em] at p'
        rintro ys H1 μ1 s1 r1 g1
        refine ⟨μ1, vs, G1, r1, g1, hln _ _ _ _ em, ?_⟩
        have p1 := Post.step p' s1
        simp only [ER.bind_ok] at p1
        cases ef : f vs G1 with
        | bad => rw [ef] at p1; exact p1.elim
        | ok v G2 => rw [ef] at p1; exact p1
        | exn y G2 => rw [ef] at p1; exact p1
    refine wpAny_Call_Name_kw (ld_glob I hg hm ?_ hdb)
    refine PySem.W.callWith_K (h₀ := X.base) I.ok.mod.kin hk (thn (ha.run pos pins s σ H _ I h2) fun us s1 ⟨vs, H1, I1, r, q⟩ => ⟨I1.kIn, ?_⟩) he hpl
    have hl : us.length = ps.length := by rw [← r.length]; exact F.len _ _ _ _ q
    have hbs := hb s1 us I1.kIn (by rw [List.append_nil]; exact hl)
    rw [List.append_nil] at hbs
    refine wpAny_call (codeAny_mono (F.run X.A X.stack s1 H1 ⟨us, []⟩ us vs Q (WE W σ) hgd hr I1.env0 hbs r q) fun rr s' hq => ?_)
    cases rr with
    | error x => exact passAt tk σ pins H1 s1 x s' I1 hq
    | ok fl =>
      cases fl with
      | ret u => exact I1.after hq
      | next => exact hq.elim
      | brk => exact hq.elim
      | cont => exact hq.elim⟩
end
end DL
/-! DRb: the end of a law whose def asks for the guards. -/
namespace DL
open PySem PySem.Spec PyProof.Rows L2 LamX

abbrev tblO (ps : Array Value) : Obj := { cls := .none, data := .fields ps }
abbrev scrO (vs : Array Value) : Obj := { cls := .type "list", data := .seq vs }
section
variable {P : Program} {w : World} {K : PySem.W.Frag} {mg mb : Str → Option Value} {k : Nat} {fa a : Addr} {cs : List (Addr × Addr)} {fd : FuncData} {x : Str} {sp : Sp} {s₁ : Shared} {vs : List Value} {ns : List Int}
/-- what the heap at the law's entry is -/
structure Entry (P : Program) (K : PySem.W.Frag) (mg mb : Str → Option Value) (cs : List (Addr × Addr)) (s₁ : Shared) (a : Addr) (vs : List Value) (ns : List Int) : Prop where
  kin : K.In s₁.heap
  glob : s₁.heap.Ns mainGlobals mg
  blt : s₁.heap.Ns builtinsNs mb
  boot : ∀ x : Str, x ≠ "__name__" → mb x = bootBuiltins x
  lim : s₁.heap.NoLimit
  gens : s₁.gens = #[]
  tabs : ∀ p ∈ cs, s₁.heap.get? p.2 = some (tblO #[])
  tabK : ∀ p ∈ cs, K.lookup p.2 = none
  codes : ∀ p ∈ cs, PySem.W.CodeHd s₁.heap p.1 p.2
  bm : ∃ (bm : Addr) (ob : Obj), mg "__builtins__" = some (.ref bm) ∧ bm ≠ builtinsNs ∧ s₁.heap.get? bm = some ob ∧ ob.cls = .type "module" ∧ ob.dict = some builtinsNs ∧ ob.data = .plain
  scr : s₁.heap.get? a = some (scrO vs.toArray)
  nums : IntsAre vs ns
  size : ns.length ≤ sizeLine
theorem Entry.isT (N : Entry P K mg mb cs s₁ a vs ns) {b : Addr} (hb : b ∈ cs.map (·.2)) : s₁.heap.get? b = some (tblO #[]) := by
  obtain ⟨p, hp, rfl⟩ := List.mem_map.mp hb
  exact N.tabs p hp
theorem Entry.scrT (N : Entry P K mg mb cs s₁ a vs ns) : a ∉ cs.map (·.2) := fun z => by
  have q := N.isT z
  rw [N.scr] at q
  have z' : Data.seq vs.toArray _ = Data.fields #[] := congrArg Obj.data (Option.some.inj q)
  cases z'
/-- the law's call, over an abstract heap that tracks the tables and, it may be, the script -/
theorem entry_run (N : Entry P K mg mb cs s₁ a vs ns) (hr : Room k callerA) (F : ∀ base : Heap, K.In base → base.Ns mainGlobals mg → (∀ p ∈ cs, TabB base mg p.1 p.2) → FnG P w K mg base k fa fd [x] sp)
    (hbind : ∀ (s : Shared) (u : Value), BindsTo s fd ⟨[u], []⟩ [(x, u)]) {H : Hp} (hH : ∀ p ∈ cs, H p.2 = some (.tbl #[])) (hO : ∀ b, H b = none ∨ b ∈ cs.map (·.2) ∨ ∃ o xs, H b = some (.frz o (.lst xs))) (hok : HOk P w H s₁.heap)
    (hA : ∀ b, H b ≠ none → b = a ∨ b ∈ cs.map (·.2)) (hK : H a ≠ none → K.lookup a = none) (hsp : sp [.ref a] H (fun v _ => v = .bl true) fun _ _ _ => False) :
    codeAny (model P w) callerA (.call (.ref fa) ⟨[.ref a], []⟩) (fun r s' => r = .ok (.ret (.bool true)) ∧ OldK s₁.heap s'.heap ∧ s'.os = s₁.os ∧ AllBare s'.gens) s₁ := by
  have stays : ∀ {b : Addr} {o : Obj}, s₁.heap.get? b = some o → H b = none → (hidT s₁.heap H).get? b = some o := fun e n => hidT_get e n
  have free : ∀ {b : Addr} {o : Obj}, s₁.heap.get? b = some o → (∀ vs n, o.data ≠ .seq vs n) → o.data ≠ .fields #[] → H b = none := fun {b o} e h1 h2 => by
    refine Classical.byContradiction fun q => ?_
    rcases hA b q with rfl | hb
    · rw [N.scr] at e
      cases e
      exact h1 _ _ rfl
    · rw [N.isT hb] at e
      cases e
      exact h2 rfl
  have freeD : ∀ {b : Addr} {o : Obj} {es : Array DictEntry} {ep : Nat}, s₁.heap.get? b = some o → o.data = .dict es ep → H b = none := fun e d => free e (fun vs n z => by rw [d] at z; cases z) fun z => by rw [d] at z; cases z
  have nsT : ∀ {b : Addr} {m : Str → Option Value}, s₁.heap.Ns b m → (hidT s₁.heap H).Ns b m := fun ⟨o, es, ep, e, d, r⟩ => ⟨o, es, ep, stays e (freeD e d), d, r⟩
  have kinT : K.In (hidT s₁.heap H) := fun b o e => stays (N.kin b o e) (by
    refine Classical.byContradiction fun q => ?_
    rcases hA b q with rfl | hb
    · rw [hK q] at e
      cases e
    · obtain ⟨p, hp, rfl⟩ := List.mem_map.mp hb
      rw [N.tabK p hp] at e
      cases e)
  have mod : L2.Mod K mg (hidT s₁.heap H) := ⟨kinT, nsT N.glob, ⟨mb, nsT N.blt, N.boot⟩, by
    obtain ⟨mc, h1, h2⟩ := N.lim
    exact ⟨mc, nsT h1, h2⟩⟩
  have tabB : ∀ p ∈ cs, TabB (hidT s₁.heap H) mg p.1 p.2 := fun p hp => by
    have hTp := N.tabs p hp
    obtain ⟨og, esg, epg, eg, dg, _⟩ := N.glob
    refine ⟨?_, ?_, fun z => by rw [z, hTp] at eg; cases eg; cases dg⟩
    · obtain ⟨o, us, file, tf, flags, tg, inF, text, tt, e1, r1, r2, r3, r4, r5, r6, r7, r8, hne⟩ := N.codes p hp
      refine ⟨o, us, file, tf, flags, tg, inF, text, tt, stays e1 (free e1 (fun vs n z => by rw [r2] at z; cases z) fun z => ?_), r1, r2, r3, r4, r5, r6, r7, r8, hne⟩
      rw [r2] at z
      cases z
      simp at r3
    · obtain ⟨bm, ob, b1, b2, b3, b4, b5, b6⟩ := N.bm
      refine ⟨bm, ob, b1, b2, fun q => ?_, fun q => ?_, stays b3 (free b3 (fun vs n z => by rw [b6] at z; cases z) fun z => by rw [b6] at z; cases z), b4, b5, b6⟩
      · rw [q, eg] at b3
        cases b3
        rw [dg] at b6
        cases b6
      · rw [q, hTp] at b3
        cases b3
        cases b6
  have e0 : Env0 P w K mg (hidT s₁.heap H) callerA [] s₁ H := ⟨rfl, mod, fun b o e => of_hidT e, Nat.le_of_eq (hidT_size _ _), trivial, fun b hb => absurd (show b ∈ ([] : List Addr) from hb) (by simp), hok, .of_eq N.gens⟩
  refine codeAny_mono ((F _ kinT (nsT N.glob) tabB).run callerA [] s₁ H ⟨[.ref a], []⟩ [.ref a] [.ref a] _ _ rfl hr e0 (hbind s₁ (.ref a)) (.cons rfl .nil) hsp) fun r s' h => ?_
  cases r with
  | error e =>
    obtain ⟨_, _, _, _, _, _, _, _, _, _, _, _, z⟩ := h
    exact z.elim
  | ok fl =>
    cases fl with
    | next => exact h.elim
    | brk => exact h.elim
    | cont => exact h.elim
    | ret u =>
      obtain ⟨v, H', os, bare, un, hok', rv, ev⟩ := h
      cases (show v = .bl true from ev)
      cases (show u = Value.bool true from rv)
      have kept : ∀ b o, b ∉ cs.map (·.2) → s₁.heap.get? b = some o → s'.heap.get? b = some o := fun b o nb e => by
        rcases hO b with z | z | ⟨ob, xs, z⟩
        · exact un.keep b o e z (fun q => absurd (show b ∈ ([] : List Addr) from q) (by simp)) (by simp)
        · exact absurd z nb
        · obtain ⟨e1, _⟩ := hok b _ z
          obtain ⟨e2, _⟩ := hok' b _ (un.frzs b ob _ z)
          rw [e] at e1
          cases e1
          exact e2
      have grown : ∀ p ∈ cs, ∃ more : Array Value, s'.heap.get? p.2 = some (tblO more) := fun p hp => by
        obtain ⟨more, z⟩ := un.tbls p.2 #[] (hH p hp)
        exact ⟨_, hok' p.2 _ z⟩
      refine ⟨rfl, ⟨fun b o e => ?_, fun b o e => ?_⟩, os, bare⟩
      · by_cases hb : b ∈ cs.map (·.2)
        · obtain ⟨p, hp, rfl⟩ := List.mem_map.mp hb
          obtain ⟨more, hm⟩ := grown p hp
          rw [N.tabs p hp] at e
          cases e
          exact .inr (.inl ⟨((N.codes p hp).tab (N.tabs p hp)).isCodeTable, rfl, #[], more, rfl, by rw [Array.empty_append]; exact hm⟩)
        · exact .inl (kept b o hb e)
      · by_cases hb : b ∈ cs.map (·.2)
        · obtain ⟨p, hp, rfl⟩ := List.mem_map.mp hb
          obtain ⟨more, hm⟩ := grown p hp
          exact ⟨_, hm⟩
        · exact ⟨o, kept b o hb e⟩
theorem entry_call (N : Entry P K mg mb cs s₁ a vs ns) (hr : Room k callerA) (F : ∀ base : Heap, K.In base → base.Ns mainGlobals mg → (∀ p ∈ cs, TabB base mg p.1 p.2) → FnG P w K mg base k fa fd [x] sp)
    (hbind : ∀ (s : Shared) (u : Value), BindsTo s fd ⟨[u], []⟩ [(x, u)]) (hsp : ∀ H : Hp, (∀ p ∈ cs, H p.2 = some (.tbl #[])) → (∀ b, H b = none ∨ b ∈ cs.map (·.2) ∨ b = a) → IsV K H [] (.ref a) (.scr ns) → sp [.ref a] H (fun v _ => v = .bl true) fun _ _ _ => False) :
    codeAny (model P w) callerA (.call (.ref fa) ⟨[.ref a], []⟩) (fun r s' => r = .ok (.ret (.bool true)) ∧ OldK s₁.heap s'.heap ∧ s'.os = s₁.os ∧ AllBare s'.gens) s₁ := by
  have rv := vals_ints N.nums
  have lenV := N.nums.length
  have aT := N.scrT
  have memT : ∀ p ∈ cs, p.2 ∈ cs.map (·.2) := fun p hp => List.mem_map.mpr ⟨p, hp, rfl⟩
  cases hk : K.lookup a with
  | some o =>
    have e := N.kin a o hk
    rw [N.scr] at e
    cases e
    have h0 : ∀ b, b ∉ cs.map (·.2) → (if b ∈ cs.map (·.2) then some (HO.tbl #[]) else none) = none := fun b hb => if_neg hb
    refine entry_run (H := fun b => if b ∈ cs.map (·.2) then some (.tbl #[]) else none) N hr F hbind (fun p hp => if_pos (memT p hp)) (fun b => ?_) (fun b u z => ?_) (fun b z => ?_) (fun z => absurd (h0 a aT) z) (hsp _ (fun p hp => if_pos (memT p hp)) (fun b => ?_) ?_)
    · by_cases hb : b ∈ cs.map (·.2)
      · exact .inr (.inl hb)
      · exact .inl (h0 b hb)
    · by_cases hb : b ∈ cs.map (·.2)
      · have z' := (if_pos hb).symm.trans z
        cases z'
        exact N.isT hb
      · have z' := (if_neg hb).symm.trans z
        cases z'
    · by_cases hb : b ∈ cs.map (·.2)
      · exact .inr hb
      · exact absurd (h0 b hb) z
    · by_cases hb : b ∈ cs.map (·.2)
      · exact .inr (.inl hb)
      · exact .inl (h0 b hb)
    · exact ⟨a, rfl, .inr (.inr ⟨_, vs.toArray, _, hk, rfl, rfl, rfl, by rw [List.size_toArray, lenV]; exact N.size, by simpa using rv⟩)⟩
  | none =>
    have hf : ∀ b, b ≠ a → b ∉ cs.map (·.2) → (if b = a then some (HO.frz (scrO vs.toArray) (.lst (ns.map V.int))) else if b ∈ cs.map (·.2) then some (.tbl #[]) else none) = none := fun b h1 h2 => (if_neg h1).trans (if_neg h2)
    have hTb : ∀ p ∈ cs, (if p.2 = a then some (HO.frz (scrO vs.toArray) (.lst (ns.map V.int))) else if p.2 ∈ cs.map (·.2) then some (.tbl #[]) else none) = some (.tbl #[]) := fun p hp => (if_neg fun z => aT (by rw [← z]; exact memT p hp)).trans (if_pos (memT p hp))
    refine entry_run (H := fun b => if b = a then some (.frz (scrO vs.toArray) (.lst (ns.map V.int))) else if b ∈ cs.map (·.2) then some (.tbl #[]) else none) N hr F hbind hTb (fun b => ?_) (fun b u z => ?_) (fun b z => ?_) (fun _ => hk) (hsp _ hTb (fun b => ?_) ?_)
    · by_cases hb : b = a
      · exact .inr (.inr ⟨_, _, if_pos hb⟩)
      · by_cases hb2 : b ∈ cs.map (·.2)
        · exact .inr (.inl hb2)
        · exact .inl (hf b hb hb2)
    · by_cases hb : b = a
      · have z' := (if_pos hb).symm.trans z
        cases z'
        rw [hb]
        exact ⟨N.scr, by rw [List.length_map]; exact N.size, vs, _, rv, N.scr⟩
      · have z1 := (if_neg hb).symm.trans z
        by_cases hb2 : b ∈ cs.map (·.2)
        · have z' := (if_pos hb2).symm.trans z1
          cases z'
          exact N.isT hb2
        · have z' := (if_neg hb2).symm.trans z1
          cases z'
    · by_cases hb : b = a
      · exact .inl hb
      · by_cases hb2 : b ∈ cs.map (·.2)
        · exact .inr hb2
        · exact absurd (hf b hb hb2) z
    · by_cases hb : b = a
      · exact .inr (.inr hb)
      · by_cases hb2 : b ∈ cs.map (·.2)
        · exact .inr (.inl hb2)
        · exact .inl (hf b hb hb2)
    · exact ⟨a, rfl, .inl ⟨_, if_pos rfl, by simp⟩⟩
/-- what is known at the head's heap -/
def LawAtG (l : PySem.W.OpenLaw) (w : World) (K : PySem.W.Frag) (k n : Nat) (x : Str) (mg : Str → Option Value) (fa : Addr) (h : Heap) : Prop :=
  ∃ (fd : FuncData) (cs : List (Addr × Addr)) (T : List (Addr × Str)) (f : FM), (∀ p ∈ cs, h.get? p.2 = some (tblO #[])) ∧ (∀ p ∈ cs, K.lookup p.2 = none) ∧ (∀ p ∈ cs, PySem.W.CodeHd h p.1 p.2) ∧ (∀ (s : Shared) (u : Value), BindsTo s fd ⟨[u], []⟩ [(x, u)]) ∧
    (∀ q ∈ T, ∃ p ∈ cs, q.1 = p.2) ∧ (∀ ns : List Int, ns.length ≤ n → (∀ z ∈ ns, Builtin.Int.intBits z ≤ 1048576) → ∃ G, f [.scr ns] [] = .ok (.d (.bool true)) G) ∧
    ∀ base : Heap, K.In base → base.Ns mainGlobals mg → (∀ p ∈ cs, TabB base mg p.1 p.2) → FnG l.prog w K mg base k fa fd [x] (spD K mg T 1 f)
theorem walk_ofG {l : PySem.W.OpenLaw} {n k : Nat} {q : Program} {loose : List Str} {XP : (Str → Option Value) → Heap → Prop} {YP : World → Heap → Prop} {d : DefRec} {K : Params → PySem.W.Frag} {x : Str}
    (hn : l.most = some n) (hn2 : n ≤ sizeLine) (hdf : d.params.defaults = []) (hr : Room k callerA) (hY : ∀ (w : World) (h : Heap), YP w h → (K w.params).In h)
    (F : ∀ (w : World) (mg : Str → Option Value) (fa : Addr) (h : Heap), YP w h → (K w.params).In h → h.Ns mainGlobals mg → mg d.name = some (.ref fa) → LawAtG l w (K w.params) k n x mg fa h) :
    PySem.W.WalkO q loose XP YP l.row.toRowW d [] (fun f vs => PySem.call f vs) := by
  refine Att.attach_callB hn hdf fun w s₀ s₁ mg mb fa o pm cd doc a vs ns G Y ho hd hcd hmg hobj hints hlen hbits hg => ?_
  obtain ⟨fd, cs, T, f, hT, nT, C, hb, hTc, hf, hF⟩ := F w mg fa _ Y (hY w _ Y) G.T.g hmg
  refine entry_call (P := l.prog) (cs := cs) ⟨hY w _ Y, G.T.g, G.T.b, G.T.builtins, G.T.nolimit, hg, hT, nT, C, G.T.bmain, hobj, hints, Nat.le_trans hlen hn2⟩ hr hF hb fun H hH _ hs => ?_
  obtain ⟨G1, e⟩ := hf ns hlen hbits
  refine ⟨[], [.scr ns], [], .cons hs .nil, ⟨List.nodup_nil, rfl, fun i b u e1 _ => by simp at e1, fun p hp => ?_⟩, rfl, ?_⟩
  · obtain ⟨c, hc, ec⟩ := hTc p hp
    rw [ec]
    exact TabS.nil (hH c hc)
  · rw [e]
    exact fun y H' μ' _ r _ => isV_bool r
end
end DL
/-! DGa: a tuple reversed; a list unpacked; a list or a tuple walked. -/
namespace DL
open PySem PySem.Spec PyProof.Rows L2 LamX

/-! ### xs[::-1] of a tuple -/
theorem adj_rev (n : Nat) : Builtin.Slice.sliceAdjust none none (-1) (n : Int) = ((n : Int) - 1, -1) := by
  unfold Builtin.Slice.sliceAdjust
  have h1 : ((-1 : Int) < 0) := by omega
  simp only [h1, if_true]
theorem places_rev (n : Nat) : Builtin.Slice.slicePlaces ((n : Int) - 1) (-1) (-1) = n := by
  unfold Builtin.Slice.slicePlaces
  have h1 : ¬ ((-1 : Int) > 0) := by omega
  simp only [h1, if_false]
  have e : (-(-1) : Int) = 1 := by omega
  rw [e, Int.ediv_one]
  split <;> omega
theorem fmap_some {α β : Type} {f : α → Option β} {g : α → β} : ∀ {l : List α}, (∀ x ∈ l, f x = some (g x)) → l.filterMap f = l.map g
  | [], _ => rfl
  | a :: l, h => by
    rw [List.filterMap_cons, h a (by simp), List.map_cons, fmap_some fun x hx => h x (by simp [hx])]
theorem pick_rev (xs : Array Value) : ((List.range xs.size).filterMap fun (m : Nat) => xs[((xs.size : Int) - 1 + (m : Int) * (-1)).toNat]?) = xs.toList.reverse := by
  apply List.ext_getElem?
  intro i
  have e : ((List.range xs.size).filterMap fun (m : Nat) => xs[((xs.size : Int) - 1 + (m : Int) * (-1)).toNat]?) = (List.range xs.size).map fun m => xs.toList.reverse[m]?.getD .none := by
    refine fmap_some fun m hm => ?_
    have hm := List.mem_range.mp hm
    have h2 : ((xs.size : Int) - 1 + (m : Int) * (-1)).toNat = xs.size - 1 - m := by omega
    rw [h2]
    have h3 : xs.size - 1 - m < xs.size := by omega
    rw [Array.getElem?_eq_getElem h3]
    rw [List.getElem?_reverse (by simpa using hm)]
    simp [h3]
  rw [e, List.getElem?_map]
  by_cases hi : i < xs.size
  · rw [List.getElem?_range hi]
    have h3 : i < xs.toList.reverse.length := by simpa using hi
    rw [Option.map_some, List.getElem?_eq_getElem h3]
    rfl
  · rw [List.getElem?_eq_none (by simpa using hi), List.getElem?_eq_none (by simpa using hi)]
    rfl
section
variable {prog : Program} {w : World} {A : Around} {E : Value → Shared → Prop} {s : Shared}
theorem applied_rev {sl : Addr} {vl vu vs : Value} {n : Nat} {Q : Int × Int × Nat → Shared → Prop} (hs : s.heap.IsSliceOf sl vl vu vs) (pl : IsPart vl none) (pu : IsPart vu none) (ps : IsPart vs (some (-1)))
    (h : Q ((n : Int) - 1, -1, n) s) : wpAny (model prog w) A (Builtin.Slice.sliceApplied (.ref sl) (pure (n : Int))) Q E s := by
  obtain ⟨os, hos, hcs, hds⟩ := id hs
  unfold Builtin.Slice.sliceApplied Builtin.Slice.sliceFields
  refine wpAny_bind (wpAny_bind (wpAny_field hos hds (x := vl) rfl (wpAny_bind (wpAny_field hos hds (x := vu) rfl (wpAny_bind (wpAny_field hos hds (x := vs) rfl (wpAny_pure ?_)))))))
  refine wpAny_bind (HT.slicePart_ ps ?_)
  show wpAny _ _ (if ((-1 : Int) == 0) = true then _ else _) _ _ s
  rw [if_neg (by decide)]
  refine wpAny_bind (HT.slicePart_ pl (wpAny_bind (HT.slicePart_ pu (wpAny_bind (wpAny_pure ?_)))))
  show wpAny _ _ (match Builtin.Slice.sliceAdjust none none (-1) (n : Int) with | (lo, hi) => pure (lo, (-1 : Int), Builtin.Slice.slicePlaces lo hi (-1))) _ _ s
  rw [adj_rev]
  show wpAny _ _ (pure ((n : Int) - 1, (-1 : Int), Builtin.Slice.slicePlaces ((n : Int) - 1) (-1) (-1))) _ _ s
  rw [places_rev]
  exact wpAny_pure h
theorem getItem_tuple_rev {t sl : Addr} {items : Array Value} {vl vu vs : Value} {Q : Value → Shared → Prop} (ht : IsTup s.heap t items) (hs : s.heap.IsSliceOf sl vl vu vs) (pl : IsPart vl none) (pu : IsPart vu none) (ps : IsPart vs (some (-1)))
    (h : Q (.ref s.heap.objs.size) { s with heap := s.heap.push { cls := .type "tuple", data := .seq items.toList.reverse.toArray } })
    (hsz : items.size ≤ sizeLine) : wpAny (model prog w) A (getItem (.ref t) (.ref sl)) Q E s := by
  have htake : sizeOk (.seq items.toList.reverse.toArray) := by
    show items.toList.reverse.toArray.size ≤ sizeLine
    rw [List.size_toArray, List.length_reverse, Array.length_toList]
    omega
  obtain ⟨os, hos, hcs, hds⟩ := id hs
  have hTs : s.TypeIs (.ref sl) "slice" := ⟨os, hos, hcs⟩
  unfold getItem
  try with_reducible refine wpAny_holding ?_
  first | refine wpAny_bind (wpAny_pure ?_) | skip
  refine wpAny_bind (wpAny_sequenceKey ht.typeIs (by decide) ?_)
  refine wpAny_bind (wpAny_callSpecial?_slot (name := Str.ofString "__getitem__") ht.typeIs PyProof.Rows.slot_tuple_getitem
    (wpAny_call_entry PyProof.Rows.slot_tuple_getitem ht.typeIs entry_tuple_getitem ?_ (args_tuple_getitem _ _)))
  show wpAny _ _ (Builtin.Tuple.tupleItemsOf (.ref t) >>= _) _ _ s
  refine wpAny_bind (tupleItemsOf_ ht ?_)
  refine wpAny_bind (wpAny_typeOf hTs ?_)
  rw [if_pos (by decide)]
  refine wpAny_bind (applied_rev hs pl pu ps ?_)
  show wpAny _ _ (if (((items.size : Int) - 1) == 0 && (-1 : Int) == 1 && items.size == items.size) = true then _ else _) _ _ s
  have hno : ¬ ((((items.size : Int) - 1) == 0 && (-1 : Int) == 1 && items.size == items.size) = true) := by
    have : ((-1 : Int) == 1) = false := by decide
    rw [this]; simp
  rw [if_neg hno, pick_rev]
  first
    | exact wpAny_bind (m := Builtin.Tuple.tupleExact _) (wpAny_newObj_type (wpAny_pure ⟨_, rfl, wpAny_pure h⟩) htake)
    | exact wpAny_bind (m := Builtin.Tuple.tupleExact _) (wpAny_newObj_type (wpAny_bind (wpAny_pure (wpAny_pure ⟨_, rfl, wpAny_pure h⟩))) htake)
    | exact wpAny_bind (wpAny_bind (m := Builtin.Tuple.tupleExact _) (wpAny_newObj_type (wpAny_pure (wpAny_pure ⟨_, rfl, wpAny_pure h⟩)) htake))
    | exact wpAny_bind (wpAny_bind (m := Builtin.Tuple.tupleExact _) (wpAny_newObj_type (wpAny_pure ⟨_, rfl, wpAny_pure h⟩) htake))
end
def tRevT (K : PySem.W.Frag) (te : TE) : TE := fun σ H Q => te σ H fun x H1 => ∃ a xs, x = .ref a ∧ SqT K H1 a xs ∧ ∀ p, H1 p = none → Q (.ref p) (upd H1 p (.tup xs.reverse))
section
variable {X : Cx}
theorem pe_revT {e : Expr} {te : TE} {k : Nat} {p1 p2 p3 pos : Pos} (he : PE X e te) : PE X (.Subscript e (.Slice none none (some (.UnaryOp .USub (.Constant (.int 1) k p1) p2)) p3) pos) (tRevT X.K te) := by
  refine ⟨fun pins s σ H Q I h => ?_⟩
  refine Subscript_ (thn (he.run pins s σ H _ I h) fun v s1 ⟨x, H1, I1, r1, q1⟩ => ?_)
  obtain ⟨a, xs, ex, hx, q⟩ := q1
  subst ex
  cases r1
  have hst : PO X (some (.UnaryOp .USub (.Constant (.int 1) k p1) p2)) (tPart (tUn (rU fun i => .int (-i)) (tC (.int 1)))) := po_some (pe_un un_neg pe_int)
  refine wpAny_Slice (thn (po_none.run pins s1 σ H1 (fun o H2 => o = none ∧ H2 = H1) I1 ⟨rfl, rfl⟩) fun vl s2 ⟨l, H2, I2, pl, el, e2⟩ => ?_)
  subst el e2
  refine thn (po_none.run pins s2 σ H2 (fun o H3 => o = none ∧ H3 = H2) I2 ⟨rfl, rfl⟩) fun vu s3 ⟨u, H3, I3, pu, eu, e3⟩ => ?_
  subst eu e3
  refine thn (hst.run pins s3 σ H3 (fun o H4 => o = some (-1) ∧ H4 = H3) I3 ⟨1, rfl, -1, rfl, rfl, rfl⟩) fun vs s4 ⟨o, H4, I4, ps, eo, e4⟩ => ?_
  subst eo e4
  have I5 : Inv X pins σ H4 { s4 with heap := s4.heap.push { cls := .type "slice", data := .fields #[vl, vu, vs] } } := I4.kept (t' := s4.toks) fun b ob q => Heap.get?_push_of_some _ q
  obtain ⟨its, r, ht, hz⟩ := I5.tuple hx
  have hlen := r.length
  show wpAny (model X.prog X.w) X.A (subscriptTail e (.Slice none none (some (.UnaryOp .USub (.Constant (.int 1) k p1) p2)) p3) (.ref a) (.ref s4.heap.objs.size)) (EP X pins σ Q) X.xe { s4 with heap := s4.heap.push { cls := .type "slice", data := .fields #[vl, vu, vs] } }
  refine tail_any (ops := [.ref a, .ref s4.heap.objs.size]) ht.typeIs (PyProof.Rows.slot_tuple_getitem.lookup) ?_ (by with_unfolding_all rfl)
  refine getItem_tuple_rev ht (Heap.IsSliceOf.new _ vl vu vs) pl pu ps ?_ (by rw [List.size_toArray]; omega)
  refine ⟨.ref _, _, I5.laid (t' := s4.toks) (o := .tup xs.reverse) (fun b ob q => Heap.get?_push_of_some _ q) (Nat.le_refl _) ?_, rfl, q _ (I5.hok.fresh (Nat.le_refl _))⟩
  exact ⟨by rw [List.length_reverse]; exact hz, _, r.reverse, IsTup.new _ _⟩
end
def revTF : UnF := fun v G => match v with
  | .d (.tuple xs) => some (.d (.tuple xs.reverse), G)
  | _ => none
section
variable {X : Cx} {T : List (Addr × Str)} {W : WX} {pos : Pos} {e a b c : Expr} {es : List Expr} {ma mb mc : EM} {m : AM}
theorem d_revT {k : Nat} {p1 p2 p3 : Pos} (he : PE X e (tE X.K X.mg T W ma)) : PE X (.Subscript e (.Slice none none (some (.UnaryOp .USub (.Constant (.int 1) k p1) p2)) p3) pos) (tE X.K X.mg T W (unE revTF ma)) :=
  pe_weak (pe_revT he) fun σ H Q h => by
    refine (tG.bind (R := RV X.K) (f := fun v ds G1 => liftO (revTF v G1)) h).mono ?_
    rintro x H1 ⟨μ1, ds, v, G1, hs, g1, r1, pp⟩
    obtain ⟨w, G', e, o⟩ := out_of pp
    unfold revTF at e
    split at e
    · rename_i xs
      cases e
      have r' : IsP X.K H1 μ1 x (.tuple xs) := r1
      cases r' with
      | @tup _ vs _ f ps =>
        refine ⟨_, _, rfl, f.sqT, fun p hp => ?_⟩
        have st : Step μ1 H1 μ1 (upd H1 p (.tup vs.reverse)) := .fresh hp
        exact o _ _ _ st (IsP.tup ⟨upd_same, g1.notin hp⟩ (IsPs.mono st ps.reverse)) (g1.fresh hp)
      | @tupK _ vs _ f ps =>
        refine ⟨_, _, rfl, sqT_of f, fun p hp => ?_⟩
        have st : Step μ1 H1 μ1 (upd H1 p (.tup vs.reverse)) := .fresh hp
        exact o _ _ _ st (IsP.tup ⟨upd_same, g1.notin hp⟩ (IsPs.mono st ps.reverse)) (g1.fresh hp)
    · cases e

/-! ### a, b = a list -/
def lstT (n : Nat) (ts : TMs) : TM := fun v ds G => match lstOf G v with
  | some xs => if xs.length = n then ts xs ds G else none
  | none => none
theorem g_lst {tgs : List Expr} {k n : Nat} {ts : TMs} (hc : X.calm = true) (h : PGs X tgs (tTs X.K T ts))
    (hn : (assignEach tgs X.env).length = n := by rfl) (hst : (assignEach tgs X.env).findIdx? (·.1) = none := by rfl) : PG X (.Tuple tgs k pos) (tT X.K T (lstT n ts)) :=
  pg_weak (pg_lst hc h hn hst) fun y σ H Q h => by
    obtain ⟨μ, v, ds, G, ds', G', r, hs, g, e, q⟩ := h
    unfold lstT at e
    split at e
    · rename_i xs e1
      split at e
      · rename_i hl
        obtain ⟨a, vs, rfl, hq, ps⟩ := lst_at r g e1
        exact ⟨a, vs, rfl, .of hq, ps.length.trans hl, μ, xs, ds, G, ds', G', ps, hs, g, e, q⟩
      · cases e
    · cases e

/-! ### for .. in a list or a tuple -/
def anyI : DV → Ms → Option ((List PyData × Src) × Ms) := fun v G => match tupI v G with
  | some r => some r
  | none => seqI v G
theorem i_any {tg : Expr} (he : PE X e (tE X.K X.mg T W ma)) : PI X tg e (tI X.K X.mg T W (iterE anyI ma)) :=
  ⟨fun pins s σ H Q I h => by
    obtain ⟨μ, ds, G, hs, g, p⟩ := h
    have p' : Post X.K X.mg T (RI X.K T) W σ μ H Q ((ma ds G).bind fun v G1 => liftO (anyI v G1)) := p
    cases em : ma ds G with
    | bad => rw [em] at p'; exact p'.elim
    | exn x G1 =>
      refine (i_list he).run pins s σ H Q I ⟨μ, ds, G, hs, g, ?_⟩
      show Post X.K X.mg T (RI X.K T) W σ μ H Q ((ma ds G).bind fun v G1 => liftO (seqI v G1))
      rw [em] at p' ⊢
      exact p'
    | ok v G1 =>
      rw [em] at p'
      simp only [ER.bind_ok] at p'
      cases e1 : tupI v G1 with
      | some r =>
        refine (i_tup he).run pins s σ H Q I ⟨μ, ds, G, hs, g, ?_⟩
        show Post X.K X.mg T (RI X.K T) W σ μ H Q ((ma ds G).bind fun v G1 => liftO (tupI v G1))
        rw [em]
        simp only [ER.bind_ok]
        unfold anyI at p'
        rw [e1] at p' ⊢
        exact p'
      | none =>
        refine (i_list he).run pins s σ H Q I ⟨μ, ds, G, hs, g, ?_⟩
        show Post X.K X.mg T (RI X.K T) W σ μ H Q ((ma ds G).bind fun v G1 => liftO (seqI v G1))
        rw [em]
        simp only [ER.bind_ok]
        unfold anyI at p'
        rw [e1] at p'
        exact p'⟩
end

/-! ### name = [..] -/
section
variable {X : Cx} {T : List (Addr × Str)} {W : WX} {im : IM} {t : TM} {ba : BM} {ma : EM}
theorem lc_imp {fz : Bool} {vs : List Nat} {g : TG} (cg : CG X.K T vs g t) {σ : L2.St} {H : Hp} {Q : VK} (h : tE X.K X.mg T W (lcE fz vs im t ba ma) σ H Q) : tLc (tI X.K X.mg T W im) g (tB X.K X.mg T W0 ba) (tE X.K X.mg T W0 ma) vs σ H Q := by
    refine (tG.bind (R := RI X.K T) (f := fun p ds G1 => (compN t ba ma p.2 (wipeD ds vs) p.1 [] G1).bind fun acc G2 => newL fz acc G2) h).mono ?_
    rintro J H1 ⟨μ1, ds, ⟨xs, s⟩, G1, hs1, g1, wk, p⟩ D hD
    have hsw := hs1.wipe vs
    refine ⟨fun i m H => m = xs.length - i ∧ i ≤ xs.length ∧ ∃ acc G, Step μ1 H1 (μ1 ++ [D]) H ∧ GR X.K T H (μ1 ++ [D]) (G ++ [.lst acc]) ∧ Post X.K X.mg T (RV X.K) W σ μ1 H1 Q ((compN t ba ma s (wipeD ds vs) (xs.drop i) acc G).bind fun acc G2 => newL fz acc G2),
      ⟨xs.length, by simp, Nat.zero_le _, [], G1, .alloc hD, g1.alloc hD .nil, by simpa using p⟩, ?_⟩
    rintro i m H2 ⟨rfl, hi2, acc, G2, s2, g2, p2⟩
    by_cases hlt : i < xs.length
    · rw [List.drop_eq_getElem_cons hlt] at p2
      unfold compN at p2
      by_cases ok : s.ok (G2 ++ [.lst acc])
      · rw [if_pos ok] at p2
        refine .inr ⟨wk.go H2 _ _ i s2 g2 ok hlt, fun H' => ∃ acc G, Step μ1 H1 (μ1 ++ [D]) H' ∧ GR X.K T H' (μ1 ++ [D]) (G ++ [.lst acc]) ∧ Post X.K X.mg T (RV X.K) W σ μ1 H1 Q ((compN t ba ma s (wipeD ds vs) (xs.drop (i + 1)) acc G).bind fun acc G2 => newL fz acc G2), fun H' q => ⟨xs.length - (i + 1), by omega, rfl, hlt, q⟩, fun y H3 hy => ?_⟩
        obtain ⟨s3, g3, d, hd, r⟩ := wk.yld H2 _ _ i y H3 s2 g2 ok hlt hy
        have ed : d = xs[i] := by rw [List.getElem?_eq_getElem hlt] at hd; exact (Option.some.inj hd).symm
        subst ed
        cases et : t (.d xs[i]) (wipeD ds vs) (G2 ++ [.lst acc]) with
        | none => rw [et] at p2; exact p2.elim
        | some q =>
          obtain ⟨q1, q2⟩ := q
          rw [et] at p2
          obtain ⟨σ4, hq, hs4, eg, ew⟩ := cg y (.d xs[i]) (wipe σ vs) (wipeD ds vs) H3 (μ1 ++ [D]) _ q1 q2 r (hsw.mono (s2.trans s3)) et
          subst eg
          have g3l : G2.length = μ1.length := by
            have z := g3.len
            simp at z
            exact z.symm
          refine hq _ ⟨ew.trans (wipe_idem σ vs), ?_⟩
          simp only at p2
          refine ⟨μ1 ++ [D], q1, _, hs4, g3, ?_⟩
          have st3 := s2.trans s3
          cases ec : ba q1 (G2 ++ [.lst acc]) with
          | bad => rw [ec] at p2; exact p2.elim
          | exn x Gx => rw [ec] at p2; exact p2.elim
          | ok k G4 =>
            rw [ec] at p2
            rintro b H4 μ4 s4 rfl g4
            cases b with
            | false =>
              rw [if_neg Bool.false_ne_true]
              simp only at p2
              cases eb : back G2.length acc G4 with
              | none => rw [eb] at p2; exact p2.elim
              | some G5 =>
                rw [eb] at p2
                obtain ⟨e5, l5⟩ := back_some eb
                subst e5
                have em : μ4 = μ1 ++ [D] := by
                  refine (s4.pre.eq_of_length ?_).symm
                  rw [g4.len]
                  simp [l5, g3l]
                subst em
                exact ⟨acc, G5, st3.trans s4, g4, p2⟩
            | true =>
              rw [if_pos rfl]
              simp only at p2
              refine ⟨μ4, q1, G4, hs4.mono s4, g4, ?_⟩
              cases ee : ma q1 G4 with
              | bad => rw [ee] at p2; exact p2.elim
              | exn x Gx => rw [ee] at p2; exact p2.elim
              | ok v G5 =>
                rw [ee] at p2
                cases v with
                | fn a => exact p2.elim
                | mr n => exact p2.elim
                | scr ns => exact p2.elim
                | d y0 =>
                  simp only at p2
                  by_cases hz : acc.length < sizeLine
                  · rw [if_pos hz] at p2
                    cases eb : back G2.length acc G5 with
                    | none => rw [eb] at p2; exact p2.elim
                    | some G6 =>
                      rw [eb] at p2
                      obtain ⟨e5, l5⟩ := back_some eb
                      subst e5
                      rintro z H5 μ5 s5 r5 g5
                      have em : μ5 = μ1 ++ [D] := by
                        refine ((s4.trans s5).pre.eq_of_length ?_).symm
                        rw [g5.len]
                        simp [l5, g3l]
                      subst em
                      have l6 : G6.length = μ1.length := l5.trans g3l
                      obtain ⟨vs', hD', r'⟩ := g5.at_ μ1.length D (.lst acc) (by simp) (by rw [← l6]; simp)
                      refine ⟨vs', hD', by rw [r'.length]; exact hz, acc ++ [y0], G6, ((st3.trans s4).trans s5).trans (.write (by simp)), ?_, p2⟩
                      have gw := g5.write (n := μ1.length) (a := D) (by simp) (r'.append (.cons r5 .nil))
                      rw [← l6] at gw
                      simpa using gw
                  · rw [if_neg hz] at p2
                    exact p2.elim
      · rw [if_neg ok] at p2
        exact p2.elim
    · have e : xs.length ≤ i := by omega
      rw [List.drop_eq_nil_of_le e] at p2
      unfold compN at p2
      by_cases ok : s.ok (G2 ++ [.lst acc])
      · rw [if_pos ok] at p2
        exact .inl ⟨wk.stop H2 _ _ i s2 g2 ok e, new_done p2 s2 g2⟩
      · rw [if_neg ok] at p2
        exact p2.elim
theorem s_setLc {fz : Bool} {elt : Expr} {ifs : List Expr} {scope : Scope} {own : List (Str × Nat)} {g : TG} {i : Nat} {y : Str} {py pos spos : Pos} {tg iter : Expr} (hc : X.calm = true) (hN : X.N.Nodup) (hi : PI X tg iter (tI X.K X.mg T W im)) (ok : BlkOk X.N X.env.scope scope own)
    (hg : ∀ (s : Shared) (H : Hp) (C : Addr) (cl : List (Str × Addr)) (fp : List Addr), PG (X.blk s H scope (compEnvC scope cl C X.env) fp) tg g) (cg : CG X.K T (own.map (·.2)) g t)
    (ht : ∀ (s : Shared) (H : Hp) (C : Addr) (cl : List (Str × Addr)) (fp : List Addr), PTs (X.blk s H scope (compEnvC scope cl C X.env) fp) ifs (tB X.K X.mg T W0 ba))
    (he : ∀ (s : Shared) (H : Hp) (C : Addr) (cl : List (Str × Addr)) (fp : List Addr), PE (X.blk s H scope (compEnvC scope cl C X.env) fp) elt (tE X.K X.mg T W0 ma))
    (hy : X.N[i]? = some y) (hyl : X.env.scope.names.lookup y = some .local)
    (hsw : swapsWith (.ListComp elt [⟨tg, iter, ifs, 0⟩] scope pos) (some (.Name y py)) spos.line X.env = pure true) (hs : ∀ x, foldedSetIterable iter X.env x = pure x := by intro _; rfl) :
    PS X (.Assign [.Name y py] (.ListComp elt [⟨tg, iter, ifs, 0⟩] scope pos) spos) (tS X.K X.mg T W (asgS (lcE fz (own.map (·.2)) im t ba ma) (nameT i))) :=
  ps_weak (ps_setLc hc hN hy hyl hsw hi ok hg ht he hs) fun D σ H h => lc_imp (fz := fz) cg ((tS.ofE (R := RV X.K) (k := fun v ds G1 => oS (nameT i v ds G1)) h).mono fun y H1 ⟨μ1, ds, v, G1, hs, g1, r, p⟩ => p _ H1 μ1 (.refl _ _) (hs.set i r) g1)
end
end DL
/-! DGb: defs and own exceptions by their names; rules in short. -/
namespace DL
open PySem PySem.Spec PyProof.Rows L2 LamX

/-- a def of the text as the top has left it -/
structure DefC (K : PySem.W.Frag) (mg : MgT) (x : Str) (st : Stmt) (ps : List Str) (f : Addr) (cdv : Value) : Prop where
  fn : ∃ (oc : Value) (od : Option Addr) (kV doc pm : Value) (an : Option Addr) (ct : Value) (osl : Array (Option Value)), K.lookup f = some ⟨oc, od, .func (PySem.W.fnOf x x (defArgs st) (defBody st) (defScope st) .none kV doc pm an cdv ct), osl⟩
  cd : PySem.W.codeIn K cdv x = true
  kp : PySem.W.keepIn K (.ref f) = true
  mgf : mg x = some (.ref f)
  bd : ∀ (kV doc pm : Value) (an : Option Addr) (cdv ct : Value) (us : List Value), us.length = ps.length → bindArgs (PySem.W.fnOf x x (defArgs st) (defBody st) (defScope st) .none kV doc pm an cdv ct) ⟨us, []⟩ = pure (ps.zip us)
def DefAt (K : PySem.W.Frag) (mg : MgT) (x : Str) (st : Stmt) (ps : List Str) (f : Addr) : Prop := ∃ cdv, DefC K mg x st ps f cdv
theorem DefAt.mgf {K : PySem.W.Frag} {mg : MgT} {x : Str} {st : Stmt} {ps : List Str} {f : Addr} (d : DefAt K mg x st ps f) : mg x = some (.ref f) := d.choose_spec.mgf
/-- its promise -/
structure Cal (P : Program) (w : World) (K : PySem.W.Frag) (mg : MgT) (base : Heap) (T : List (Addr × Str)) (lv : Nat) (x : Str) (ps : List Str) (F : FM) : Prop where
  ex : ∃ (f : Addr) (fd : FuncData), mg x = some (.ref f) ∧ PySem.W.keepIn K (.ref f) = true ∧ Binds K fd ps [] ∧ FnOk P w K mg base (L2.CX P w) lv f fd ps (spD K mg T ps.length F)
structure CalG (P : Program) (w : World) (K : PySem.W.Frag) (mg : MgT) (base : Heap) (T : List (Addr × Str)) (lv : Nat) (x : Str) (ps : List Str) (F : FM) : Prop where
  ex : ∃ (f : Addr) (fd : FuncData), mg x = some (.ref f) ∧ PySem.W.keepIn K (.ref f) = true ∧ Binds K fd ps [] ∧ FnG P w K mg base lv f fd ps (spD K mg T ps.length F) ∧ ∃ (oc : Value) (od : Option Addr) (osl : Array (Option Value)), K.lookup f = some ⟨oc, od, .func fd, osl⟩
section
variable {P : Program} {w : World} {K : PySem.W.Frag} {mg : MgT} {base : Heap} {T : List (Addr × Str)} {k : Nat} {x : Str} {st : Stmt} {N ps : List Str} {f : Addr} {cdv : Value} {cut : Nat → DV → Ms → ER DV} {m : SM} {F F' : FM}
theorem calC_of (hcut : CutOk cut) (D : DefC K mg x st ps f cdv) (S : FnScope N ps (defScope st))
    (hbody : ∀ (A : Around) (outer : List Env) (s : Shared) (H : Hp) (E : XK) (W : WX), Room k (A.deeper (envOfC x (defScope st) s.heap.objs.size f cdv)) → Takes (cxOf (L2.CX P w) P w K mg base N x (defScope st) f cdv A outer s H E) W →
      PassesOwn (model P w) (A.deeper (envOfC x (defScope st) s.heap.objs.size f cdv)) (envOfC x (defScope st) s.heap.objs.size f cdv) (cxOf (L2.CX P w) P w K mg base N x (defScope st) f cdv A outer s H E).xe →
      PSs (cxOf (L2.CX P w) P w K mg base N x (defScope st) f cdv A outer s H E) (defBody st) (tS K mg T W m)) :
    Cal P w K mg base T (k + 1) x ps (defW cut N.length m) := by
  obtain ⟨oc, od, kV, doc, pm, an, ct, osl, lk⟩ := D.fn
  refine ⟨f, _, D.mgf, D.kp, .all (D.bd kV doc pm an cdv ct), fun vs H Q E h => ?_, fun A outer s H args us vs Q E hr e0 hb rv h => ?_⟩
  · obtain ⟨μ, ws, G, r, g, hl, p⟩ := h
    exact r.length.trans hl
  · obtain ⟨μ, ws, G, r, g, hl, p⟩ := h
    exact LamX.run_ofS lk D.cd S hr e0 hb rv (r.length.trans hl) fun hr' => ⟨_, hbody A outer s H E (fun cls d _ H => E cls d H) hr' (takes_of rfl rfl rfl rfl) (passes_of rfl), def_read hcut r g p⟩
theorem calGC_of (hcut : CutOk cut) (D : DefC K mg x st ps f cdv) (S : FnScope N ps (defScope st))
    (hbody : ∀ (A : Around) (outer : List Env) (s : Shared) (H : Hp) (E : XK) (W : WX), A.guards = some [] → Room k (A.deeper (envOfC x (defScope st) s.heap.objs.size f cdv)) → Takes (cxOf (L2.CX P w) P w K mg base N x (defScope st) f cdv A outer s H E) W →
      PassesOwn (model P w) (A.deeper (envOfC x (defScope st) s.heap.objs.size f cdv)) (envOfC x (defScope st) s.heap.objs.size f cdv) (cxOf (L2.CX P w) P w K mg base N x (defScope st) f cdv A outer s H E).xe →
      PSs (cxOf (L2.CX P w) P w K mg base N x (defScope st) f cdv A outer s H E) (defBody st) (tS K mg T W m)) :
    CalG P w K mg base T (k + 1) x ps (defW cut N.length m) := by
  obtain ⟨oc, od, kV, doc, pm, an, ct, osl, lk⟩ := D.fn
  refine ⟨f, _, D.mgf, D.kp, .all (D.bd kV doc pm an cdv ct), ⟨fun vs H Q E h => ?_, fun A outer s H args us vs Q E hgd hr e0 hb rv h => ?_⟩, oc, od, osl, lk⟩
  · obtain ⟨μ, ws, G, r, g, hl, p⟩ := h
    exact r.length.trans hl
  · obtain ⟨μ, ws, G, r, g, hl, p⟩ := h
    exact LamX.run_ofS lk D.cd S hr e0 hb rv (r.length.trans hl) fun hr' => ⟨_, hbody A outer s H E (fun cls d _ H => E cls d H) hgd hr' (takes_of rfl rfl rfl rfl) (passes_of rfl), def_read hcut r g p⟩
theorem cal_of (hcut : CutOk cut) (D : DefAt K mg x st ps f) (S : FnScope N ps (defScope st))
    (hbody : ∀ (cdv : Value) (A : Around) (outer : List Env) (s : Shared) (H : Hp) (E : XK) (W : WX), Room k (A.deeper (envOfC x (defScope st) s.heap.objs.size f cdv)) → Takes (cxOf (L2.CX P w) P w K mg base N x (defScope st) f cdv A outer s H E) W →
      PassesOwn (model P w) (A.deeper (envOfC x (defScope st) s.heap.objs.size f cdv)) (envOfC x (defScope st) s.heap.objs.size f cdv) (cxOf (L2.CX P w) P w K mg base N x (defScope st) f cdv A outer s H E).xe →
      PSs (cxOf (L2.CX P w) P w K mg base N x (defScope st) f cdv A outer s H E) (defBody st) (tS K mg T W m)) :
    Cal P w K mg base T (k + 1) x ps (defW cut N.length m) := by
  obtain ⟨cdv, D⟩ := D
  exact calC_of hcut D S (hbody cdv)
theorem calG_of (hcut : CutOk cut) (D : DefAt K mg x st ps f) (S : FnScope N ps (defScope st))
    (hbody : ∀ (cdv : Value) (A : Around) (outer : List Env) (s : Shared) (H : Hp) (E : XK) (W : WX), A.guards = some [] → Room k (A.deeper (envOfC x (defScope st) s.heap.objs.size f cdv)) → Takes (cxOf (L2.CX P w) P w K mg base N x (defScope st) f cdv A outer s H E) W →
      PassesOwn (model P w) (A.deeper (envOfC x (defScope st) s.heap.objs.size f cdv)) (envOfC x (defScope st) s.heap.objs.size f cdv) (cxOf (L2.CX P w) P w K mg base N x (defScope st) f cdv A outer s H E).xe →
      PSs (cxOf (L2.CX P w) P w K mg base N x (defScope st) f cdv A outer s H E) (defBody st) (tS K mg T W m)) :
    CalG P w K mg base T (k + 1) x ps (defW cut N.length m) := by
  obtain ⟨cdv, D⟩ := D
  exact calGC_of hcut D S (hbody cdv)
theorem Cal.eq (c : Cal P w K mg base T k x ps F) (e : ∀ vs G, F' vs G = .bad ∨ F vs G = F' vs G) : Cal P w K mg base T k x ps F' := by
  obtain ⟨f, fd, h1, h2, h3, h4⟩ := c.ex
  exact ⟨f, fd, h1, h2, h3, fn_eq h4 e⟩
theorem CalG.eq (c : CalG P w K mg base T k x ps F) (e : ∀ vs G, F' vs G = .bad ∨ F vs G = F' vs G) : CalG P w K mg base T k x ps F' := by
  obtain ⟨f, fd, h1, h2, h3, h4, h5⟩ := c.ex
  exact ⟨f, fd, h1, h2, h3, fnG_eq h4 e, h5⟩
end
theorem hu_eq {A : Around} {k : Nat} (hr : Room k A) : A.units + 200 < cLine := by have := hr.un; omega
theorem hu_in {A : Around} {k : Nat} (hr : Room k A) (hk : 1 ≤ k := by decide) : A.units + 201 < cLine := by have := hr.un; omega
theorem hu_64 {A : Around} {k : Nat} (hr : Room k A) : A.units + 64 < cLine := by have := hr.un; omega
theorem hu_150 {A : Around} {k : Nat} (hr : Room k A) : A.units + 150 < cLine := by have := hr.un; omega
section
variable {X : Cx} {T : List (Addr × Str)} {W : WX} {pos p : Pos} {e a b c : Expr} {es : List Expr} {ma mb mc : EM} {m : AM} {ps : List Str} {x y : Str} {F : FM} {j k : Nat}
theorem d_callC (c : Cal X.prog X.w X.K X.mg X.base T j x ps F) (tk : Takes X W) (hr : Room k X.A) (hk : j ≤ k) (hg : Gl X x) (ha : PA X (e :: es) (tL X.K X.mg T W m)) (hln : LenA ps.length m) (hdb : (x == ("__debug__" : Str)) = false := by decide)
    (he : starEach (e :: es) X.env = (false, eval e X.env) :: starEach es X.env := by rfl) (hpl : (backTo pos (starEach es X.env)).any (·.1) = false := by rfl) : PE X (.Call (.Name x p) (e :: es) [] pos) (tE X.K X.mg T W (fnE F m)) := by
  obtain ⟨f, fd, h1, h2, h3, h4⟩ := c.ex
  exact d_call h4 tk (hr.mono hk) hg h1 h2 h3 ha rfl hln hdb he hpl
theorem d_callGC (c : CalG X.prog X.w X.K X.mg X.base T j x ps F) (hgd : X.A.guards = some []) (tk : Takes X W) (hr : Room k X.A) (hk : j ≤ k) (hg : Gl X x) (ha : PA X (e :: es) (tL X.K X.mg T W m)) (hln : LenA ps.length m) (hdb : (x == ("__debug__" : Str)) = false := by decide)
    (he : starEach (e :: es) X.env = (false, eval e X.env) :: starEach es X.env := by rfl) (hpl : (backTo pos (starEach es X.env)).any (·.1) = false := by rfl) : PE X (.Call (.Name x p) (e :: es) [] pos) (tE X.K X.mg T W (fnE F m)) := by
  obtain ⟨f, fd, h1, h2, h3, h4, _⟩ := c.ex
  exact d_callG (h4.mono hk) hgd tk hr hg h1 h2 h3 ha rfl hln hdb he hpl
theorem d_callLC {i : Nat} {fa : Addr} (c : Cal X.prog X.w X.K X.mg X.base T j y ps F) (hm : X.mg y = some (.ref fa)) (tk : Takes X W) (hr : Room k X.A) (hk : j ≤ k) (hN : X.N[i]? = some x) (hv : Vis X.env.scope x) (ha : PA X (e :: es) (tL X.K X.mg T W m)) (hln : LenA ps.length m) (hdb : (x == ("__debug__" : Str)) = false := by decide) (hcd : (x == ("__classdict__" : Str)) = false := by decide)
    (he : starEach (e :: es) X.env = (false, eval e X.env) :: starEach es X.env := by rfl) (hpl : (backTo pos (starEach es X.env)).any (·.1) = false := by rfl) : PE X (.Call (.Name x p) (e :: es) [] pos) (tE X.K X.mg T W (callLE i fa F m)) := by
  obtain ⟨f, fd, h1, h2, h3, h4⟩ := c.ex
  cases h1.symm.trans hm
  exact d_callL h4 tk (hr.mono hk) hN hv h2 h3 ha rfl hln hdb hcd he hpl
theorem d_constG {i : Int} (hg : Gl X x) (hm : ∃ t, X.mg x = some (.int i t)) (hd : (x == ("__debug__" : Str)) = false := by decide) : PE X (.Name x pos) (tE X.K X.mg T W (kE (.int i))) := by
  obtain ⟨t, h⟩ := hm
  exact d_glob (y := .int i) hg h ⟨t, rfl⟩ (fun _ _ => .int i) hd
/-! ### own exceptions -/
/-- an own class without own __init__ -/
def Exc0 (K : PySem.W.Frag) (mg : MgT) (x : Str) : Prop := ∃ (C : Addr) (bmB : List Value) (B newId initId : String), ExcBaseFacts B newId initId bmB ∧ PySem.W.excIn K C bmB newId = true ∧ mg x = some (.ref C) ∧ PySem.W.keepIn K (.ref C) = true ∧
  PySem.W.subIn K (.ref C) (.type "BaseException") = some true ∧ PySem.W.typeIn K (.ref C) = some (.type "type")
structure Exc2 (P : Program) (w : World) (K : PySem.W.Frag) (mg : MgT) (base : Heap) (lv : Nat) (x f1 f2 : Str) : Prop where
  ex : ∃ (C fI : Addr) (fd : FuncData), OexC K C ∧ PySem.W.findIn K (.ref C) "__init__" = some (some (.ref fI)) ∧ PySem.W.typeIn K (.ref fI) = some (.type "function") ∧ FnOk P w K mg base (L2.CX P w) lv fI fd ["self", f1, f2] (spI2 C f1 f2) ∧ Binds K fd ["self", f1, f2] [] ∧ mg x = some (.ref C)
theorem s_raiseC0 {p2 : Pos} (hc : X.calm = true) (tk : Takes X W) (z : Exc0 X.K X.mg x) (hg : Gl X x) (hdb : (x == ("__debug__" : Str)) = false := by decide) : PS X (.Raise (some (.Call (.Name x p) [] [] pos)) none p2) (tS X.K X.mg T W (raise0S x)) := by
  obtain ⟨C, bmB, B, newId, initId, F, q, h1, h2, h3, h4⟩ := z
  exact s_raise0 hc tk F q h1 h2 (raises_own h3 h4) hg hdb
theorem s_raiseC2 {f1 f2 : Str} {p2 : Pos} (hc : X.calm = true) (tk : Takes X W) (z : Exc2 X.prog X.w X.K X.mg X.base j x f1 f2) (hr : Room k X.A) (hk : j + 1 ≤ k) (hg : Gl X x) (ha : PA X [a, b] (tL X.K X.mg T W m)) (hln : LenA 2 m)
    (hdb : (x == ("__debug__" : Str)) = false := by decide) (he : starEach [a, b] X.env = (false, eval a X.env) :: starEach [b] X.env := by rfl) (hpl : (backTo pos (starEach [b] X.env)).any (·.1) = false := by rfl) :
    PS X (.Raise (some (.Call (.Name x p) [a, b] [] pos)) none p2) (tS X.K X.mg T W (raiseS x [f1, f2] m)) := by
  obtain ⟨C, fI, fd, h1, h2, h3, h4, h5, h6⟩ := z.ex
  exact s_raise2 hc tk h1 h2 h3 h4 (hr.mono hk) h5 hg h6 ha hln hdb he hpl
/-- what an except names -/
theorem names_of {x : Str} {C : Addr} (hg : Gl X x) (hm : X.mg x = some (.ref C)) (hdb : (x == ("__debug__" : Str)) = false := by decide) : Names X x (.ref C) := ⟨hg, hdb, .inl hm⟩
/-- x(lambda: body), x a def that tries -/
theorem d_lamC {z x a : Str} {st : Stmt} {g c P : Addr} {cdg : Value} {k ng : Nat} {Ng : List Str} {params : Arguments} {body : Expr} {scope : Scope} {mb : EM} {l : List HM} {hd : ExceptHandler} {hds : List ExceptHandler} {i1 i2 : Nat} {q1 q2 q3 q4 q5 q8 : Pos} {lpos : Pos}
    (D : DefC X.K X.mg x st [a] g cdg) (Sg : FnScope Ng [a] (defScope st)) (hbg : defBody st = [.Try [.Return (some (.Tuple [.Constant (.str z) i1 q3, .Call (.Name a q1) [] [] q2] i2 q4)) q5] (hd :: hds) [] [] q8])
    (hcl : ∀ (s : Shared) (H : Hp), HmOk (cxOf C8.CX0 X.prog X.w X.K X.mg X.base Ng x (defScope st) g cdg X.A X.stack s H C8.E0).nox T (hd :: hds) l)
    (hg : Gl X x) (hNg : Ng[0]? = some a) (hva : Vis (defScope st) a) (TB : TabB X.base X.mg c P) (hcode : X.env.code = .ref c) (hmT : (P, X.env.qual ++ "<lambda>") ∈ T) (hu : ∀ p ∈ T, p.1 = P → p.2 = X.env.qual ++ "<lambda>") (hr : Room j X.A) (hj : k + 2 ≤ j) (L : LamS X.env.scope scope) (hdef : defaultsOf params X.env = ([], []))
    (hbind : ∀ (q : Str) (cl : List (Str × Addr)) (pm cv ctv : Value), bindArgs (PySem.W.kla_fn "<lambda>" q params body scope cl pm cv ctv) ⟨[], []⟩ = pure [])
    (hbody : ∀ (A : Around) (outer : List Env) (s : Shared) (H : Hp) (E : XK) (f c' : Addr), Room k (A.deeper (lamEnv X scope s.heap.objs.size f c')) → PE (lamCx X A outer s H E scope f c') body (tE X.K X.mg T (fun cls d _ H => E cls d H) mb))
    (hng : ng = Ng.length) (hlen : 1 ≤ Ng.length) (hdb : (x == ("__debug__" : Str)) = false := by decide) (hd : (a == ("__debug__" : Str)) = false := by decide) (hcd : (a == ("__classdict__" : Str)) = false := by decide) :
    PE X (.Call (.Name x p) [.Lambda params body scope lpos] [] pos) (tE X.K X.mg T W (toldE z ng mb l)) := by
  obtain ⟨oc, od, kV, doc, pm, an, ct, osl, lk⟩ := D.fn
  subst hng
  exact d_lam hg D.mgf D.kp lk D.cd (.all (D.bd kV doc pm an cdg ct)) Sg hNg hva (told_gives hbg Sg.nd hlen hcl) TB hcode hmT hu (hr.mono hj) L hdef hbind hbody hdb hd hcd
end
/-! ### the end -/
section
variable {P : Program} {w : World} {K : PySem.W.Frag} {mg : MgT} {h base : Heap}
theorem defC_mk {x : Str} {st : Stmt} {ps : List Str} {f : Addr} {oc : Value} {od : Option Addr} {kV dc pm : Value} {an : Option Addr} {cd ct : Value} {sl : Array (Option Value)} (X : K.In h) (G : h.Ns mainGlobals mg)
    (a : PySem.W.nsIn K mainGlobals x = some (some (.ref f))) (l : K.lookup f = some ⟨oc, od, .func (PySem.W.fnOf x x (defArgs st) (defBody st) (defScope st) .none kV dc pm an cd ct), sl⟩) (c : PySem.W.codeIn K cd x = true) (k : PySem.W.keepIn K (.ref f) = true)
    (b : ∀ (kV doc pm : Value) (an : Option Addr) (cdv ct : Value) (us : List Value), us.length = ps.length → bindArgs (PySem.W.fnOf x x (defArgs st) (defBody st) (defScope st) .none kV doc pm an cdv ct) ⟨us, []⟩ = pure (ps.zip us)) : DefC K mg x st ps f cd :=
  ⟨⟨oc, od, kV, dc, pm, an, ct, sl, l⟩, c, k, PySem.W.mg_of X G a, b⟩
/-- what stands above a class whose base is ValueError -/
def aboveVE : List Value := ["ValueError", "Exception", "BaseException", "object"].map .type
def excB (K : PySem.W.Frag) (C : Addr) : Bool := PySem.W.excIn K C aboveVE "ValueError.__new__" && (PySem.W.keepIn K (.ref C) && (decide (PySem.W.subIn K (.ref C) (.type "BaseException") = some true) && decide (PySem.W.typeIn K (.ref C) = some (.type "type"))))
theorem exc0_mk {x : Str} {C : Addr} (X : K.In h) (G : h.Ns mainGlobals mg) (a : PySem.W.nsIn K mainGlobals x = some (some (.ref C))) (e : excB K C = true) : Exc0 K mg x := by
  unfold excB at e
  simp only [Bool.and_eq_true, decide_eq_true_eq] at e
  exact ⟨C, aboveVE, _, _, _, F.excBase_ValueError, e.1, PySem.W.mg_of X G a, e.2.1, e.2.2.1, e.2.2.2⟩
def oexB (K : PySem.W.Frag) (C : Addr) : Bool := decide (PySem.W.findIn K (.ref C) "__setattr__" = some (some (.builtin "object.__setattr__"))) && (decide (PySem.W.subIn K (.ref C) (.type "BaseException") = some true) && (decide (PySem.W.typeIn K (.ref C) = some (.type "type")) && PySem.W.keepIn K (.ref C)))
theorem oex_mk {C : Addr} {nm q N bs bm sn sub ab col dd k0 k1 k2 k3 k5} (l : K.lookup C = some (excClassObj nm q C N bs bm true sn sub ab col dd k0 k1 k2 k3 k5 "ValueError.__new__")) (r : PySem.HandSPX.refsVE bm = true) (e : oexB K C = true) : OexC K C := by
  unfold oexB at e
  simp only [Bool.and_eq_true, decide_eq_true_eq] at e
  exact ⟨⟨nm, q, N, bs, bm, sn, sub, ab, col, dd, k0, k1, k2, k3, k5, l, r⟩, e.1, e.2.1, e.2.2.1, e.2.2.2⟩
def supB (K : PySem.W.Frag) (C : Addr) : Bool := decide (PySem.W.mroIn K C (.ref C) = some true) && (decide (PySem.W.subIn K (.ref C) (.type "ValueError") = some true) && (decide (PySem.W.ks_superIn K C C "__init__" = some (some (.builtin "ValueError.__init__"))) && decide (PySem.W.nsIn K cStatics "thirdparty.any" = some none)))
def fileB (K : PySem.W.Frag) (cda : Addr) (f : Str) : Bool := match K.lookup cda with
  | some ⟨_, _, .fields vs, _⟩ => (match (vs[2]? : Option Value) with
    | some (.str file _) => f == file
    | _ => false)
  | _ => false
theorem sup_mk {C cc cda : Addr} {cl cld csl} (X : K.In h) (G : h.Ns mainGlobals mg) (O : OexC K C) (c : K.lookup cc = some ⟨cl, cld, .cell (some (.ref C)), csl⟩) (f : fileB K cda P.main.file = true) (b : supB K C = true) (t : (P.main.scope.names.lookup ("super" : Str)).isSome = false) (z : PySem.W.nsIn K mainGlobals "super" = some none) : SupC P K C cc cda mg := by
  unfold supB at b
  simp only [Bool.and_eq_true, decide_eq_true_eq] at b
  refine ⟨O, ⟨cl, cld, csl, c⟩, ?_, b.1, b.2.1, b.2.2.1, b.2.2.2, t, PySem.W.mg_none_of X G z⟩
  unfold fileB at f
  split at f
  · rename_i ccl cdd vs ccs e
    split at f
    · rename_i file tf e2
      exact ⟨ccl, cdd, vs, ccs, file, tf, e, e2, f⟩
    · cases f
  · cases f
theorem free_mk {sc : Scope} (h : (sc.names.all fun p => decide (p.2 ≠ .free) || decide (p.1 = "__class__")) = true) (x : Str) (e : sc.names.lookup x = some .free) : x = "__class__" := by
  have m := PySem.mem_of_lookup e
  have := List.all_eq_true.mp h _ m
  simpa using this
def initB (K : PySem.W.Frag) (C fI : Addr) (f1 f2 : Str) : Bool := decide (PySem.W.findIn K (.ref C) "__init__" = some (some (.ref fI))) && (decide (PySem.W.typeIn K (.ref fI) = some (.type "function")) && (decide (PySem.W.findIn K (.ref C) f1 = some none) && decide (PySem.W.findIn K (.ref C) f2 = some none)))
theorem exc2_mk {x f1 f2 name qual : Str} {k : Nat} {C fI cc cda : Addr} {oc : Value} {od : Option Addr} {params : Arguments} {scope : Scope} {dV kV doc pm ct : Value} {an : Option Addr} {osl : Array (Option Value)} {p0 p1 ap cp ep a1 a2 b1 b2 b3 b4 c1 c2 c3 c4 : Pos} (X : K.In h) (G : h.Ns mainGlobals mg)
    (a : PySem.W.nsIn K mainGlobals x = some (some (.ref C))) (i : initB K C fI f1 f2 = true)
    (lk : K.lookup fI = some ⟨oc, od, .func (PySem.W.ksFn name qual params [.Expr (.Call (.Attribute (.Call (.Name "super" p0) [] [] p1) "__init__" ap) [.Name f1 a1, .Name f2 a2] [] cp) ep,
      .Assign [.Attribute (.Name "self" b1) f1 b2] (.Name f1 b3) b4, .Assign [.Attribute (.Name "self" c1) f2 c2] (.Name f2 c3) c4] scope dV kV doc pm an (.ref cda) ct cc), osl⟩) (hcd : PySem.W.codeIn K (.ref cda) qual = true)
    (Z : SupC P K C cc cda mg)
    (S : ScopeI ["self", f1, f2] ["self", f1, f2] scope) {ar : Arg} (hpar : (params.posonlyargs ++ params.args).head? = some ar) (hself : ar.arg = "self")
    (d1 : (f1 == ("__debug__" : Str)) = false ∧ (f1 == ("__classdict__" : Str)) = false) (d2 : (f2 == ("__debug__" : Str)) = false ∧ (f2 == ("__classdict__" : Str)) = false)
    (hsw : ∀ env : Env, swapsWith (.Call (.Attribute (.Call (.Name "super" p0) [] [] p1) "__init__" ap) [.Name f1 a1, .Name f2 a2] [] cp) none ep.line env = pure false)
    (hw1 : ∀ env : Env, swapsWith (.Name f1 b3) (some (.Attribute (.Name "self" b1) f1 b2)) b4.line env = pure false) (hw2 : ∀ env : Env, swapsWith (.Name f2 c3) (some (.Attribute (.Name "self" c1) f2 c2)) c4.line env = pure false)
    (pl : Env → Sem Bool) (hev : ∀ env : Env, eval (.Call (.Attribute (.Call (.Name "super" p0) [] [] p1) "__init__" ap) [.Name f1 a1, .Name f2 a2] [] cp) env = (do
      let ov ← attributeBase (.Call (.Name "super" p0) [] [] p1) "__init__" env (eval (.Call (.Name "super" p0) [] [] p1) env)
      standAt ap.atName
      let (f, first) ← holding [ov] (getMethod ov "__init__" (pl env))
      callWith cp f first (backTo cp (starEach [.Name f1 a1, .Name f2 a2] env)) []))
    (hb : ∀ us : List Value, us.length = 3 → bindArgs (PySem.W.ksFn name qual params [.Expr (.Call (.Attribute (.Call (.Name "super" p0) [] [] p1) "__init__" ap) [.Name f1 a1, .Name f2 a2] [] cp) ep,
      .Assign [.Attribute (.Name "self" b1) f1 b2] (.Name f1 b3) b4, .Assign [.Attribute (.Name "self" c1) f2 c2] (.Name f2 c3) c4] scope dV kV doc pm an (.ref cda) ct cc) ⟨us, []⟩ = pure ((["self", f1, f2] : List Str).zip us)) : Exc2 P w K mg base (k + 1) x f1 f2 := by
  unfold initB at i
  simp only [Bool.and_eq_true, decide_eq_true_eq] at i
  exact ⟨C, fI, _, Z.oex, i.1, i.2.1, init2 lk hcd S Z hpar hself i.2.2.1 i.2.2.2 d1 d2 hsw hw1 hw2 pl hev, .all hb, PySem.W.mg_of X G a⟩
theorem noAt_mk {x : Str} (X : K.In h) (G : h.Ns mainGlobals mg) (z : PySem.W.nsIn K mainGlobals x = some none) : mg x = none := PySem.W.mg_none_of X G z
end
end DL
/-! DZa: zip: gone through at once, and kept in a name ahead. -/
namespace DL
open PySem PySem.Spec PyProof.Rows L2 LamX
/-- a list comprehension's turns, from where its iterator has come -/
theorem lc_read {K : PySem.W.Frag} {mg : MgT} {T : List (Addr × Str)} {W : WX} {J : It} {H1 : Hp} {μ1 : List Addr} {σ σ0 : L2.St} {ds : Sl} {xs : List PyData} {s : Src} {G1 : Ms} {Q : VK} {vs : List Nat} {t : TM} {g : TG} {ba : BM} {ma : EM} {fz : Bool}
    (cg : CG K T vs g t) (hs1 : SL K H1 μ1 σ ds) (g1 : GR K T H1 μ1 G1) (wk : Walks K T H1 μ1 J xs s) (p : Post K mg T (RV K) W σ0 μ1 H1 Q ((compN t ba ma s (wipeD ds vs) xs [] G1).bind fun acc G2 => newL fz acc G2)) :
    ∀ D, H1 D = none → ∃ Wf : Nat → Nat → Hp → Prop, (∃ m, Wf 0 m (upd H1 D (.lst []))) ∧ ∀ i m H, Wf i m H →
      (J.stop i H ∧ Q (.ref D) H) ∨ (J.go i H ∧ ∃ Nx : Hp → Prop, (∀ H', Nx H' → ∃ m', m' < m ∧ Wf (i + 1) m' H') ∧ ∀ x H', J.yld i H x H' → g x (wipe σ vs) H' fun σ2 H2 => wipe σ2 vs = wipe σ vs ∧ (tB K mg T W0 ba) σ2 H2 fun b H3 =>
        if b = true then (tE K mg T W0 ma) σ2 H3 fun y H4 => ∃ acc, H4 D = some (.lst acc) ∧ acc.length < sizeLine ∧ Nx (upd H4 D (.lst (acc ++ [y]))) else Nx H3) := by
  intro D hD
  have hsw := hs1.wipe vs
  refine ⟨fun i m H => m = xs.length - i ∧ i ≤ xs.length ∧ ∃ acc G, Step μ1 H1 (μ1 ++ [D]) H ∧ GR K T H (μ1 ++ [D]) (G ++ [.lst acc]) ∧ Post K mg T (RV K) W σ0 μ1 H1 Q ((compN t ba ma s (wipeD ds vs) (xs.drop i) acc G).bind fun acc G2 => newL fz acc G2),
    ⟨xs.length, by simp, Nat.zero_le _, [], G1, .alloc hD, g1.alloc hD .nil, by simpa using p⟩, ?_⟩
  rintro i m H2 ⟨rfl, hi2, acc, G2, s2, g2, p2⟩
  by_cases hlt : i < xs.length
  · rw [List.drop_eq_getElem_cons hlt] at p2
    unfold compN at p2
    by_cases ok : s.ok (G2 ++ [.lst acc])
    · rw [if_pos ok] at p2
      refine .inr ⟨wk.go H2 _ _ i s2 g2 ok hlt, fun H' => ∃ acc G, Step μ1 H1 (μ1 ++ [D]) H' ∧ GR K T H' (μ1 ++ [D]) (G ++ [.lst acc]) ∧ Post K mg T (RV K) W σ0 μ1 H1 Q ((compN t ba ma s (wipeD ds vs) (xs.drop (i + 1)) acc G).bind fun acc G2 => newL fz acc G2), fun H' q => ⟨xs.length - (i + 1), by omega, rfl, hlt, q⟩, fun y H3 hy => ?_⟩
      obtain ⟨s3, g3, d, hd, r⟩ := wk.yld H2 _ _ i y H3 s2 g2 ok hlt hy
      have ed : d = xs[i] := by rw [List.getElem?_eq_getElem hlt] at hd; exact (Option.some.inj hd).symm
      subst ed
      cases et : t (.d xs[i]) (wipeD ds vs) (G2 ++ [.lst acc]) with
      | none => rw [et] at p2; exact p2.elim
      | some q =>
        obtain ⟨q1, q2⟩ := q
        rw [et] at p2
        obtain ⟨σ4, hq, hs4, eg, ew⟩ := cg y (.d xs[i]) (wipe σ vs) (wipeD ds vs) H3 (μ1 ++ [D]) _ q1 q2 r (hsw.mono (s2.trans s3)) et
        subst eg
        have g3l : G2.length = μ1.length := by
          have z := g3.len
          simp at z
          exact z.symm
        refine hq _ ⟨ew.trans (wipe_idem σ vs), ?_⟩
        simp only at p2
        refine ⟨μ1 ++ [D], q1, _, hs4, g3, ?_⟩
        have st3 := s2.trans s3
        cases ec : ba q1 (G2 ++ [.lst acc]) with
        | bad => rw [ec] at p2; exact p2.elim
        | exn x Gx => rw [ec] at p2; exact p2.elim
        | ok k G4 =>
          rw [ec] at p2
          rintro b H4 μ4 s4 rfl g4
          cases b with
          | false =>
            rw [if_neg Bool.false_ne_true]
            simp only at p2
            cases eb : back G2.length acc G4 with
            | none => rw [eb] at p2; exact p2.elim
            | some G5 =>
              rw [eb] at p2
              obtain ⟨e5, l5⟩ := back_some eb
              subst e5
              have em : μ4 = μ1 ++ [D] := by
                refine (s4.pre.eq_of_length ?_).symm
                rw [g4.len]
                simp [l5, g3l]
              subst em
              exact ⟨acc, G5, st3.trans s4, g4, p2⟩
          | true =>
            rw [if_pos rfl]
            simp only at p2
            refine ⟨μ4, q1, G4, hs4.mono s4, g4, ?_⟩
            cases ee : ma q1 G4 with
            | bad => rw [ee] at p2; exact p2.elim
            | exn x Gx => rw [ee] at p2; exact p2.elim
            | ok v G5 =>
              rw [ee] at p2
              cases v with
              | fn a => exact p2.elim
              | mr n => exact p2.elim
              | scr ns => exact p2.elim
              | d y0 =>
                simp only at p2
                by_cases hz : acc.length < sizeLine
                · rw [if_pos hz] at p2
                  cases eb : back G2.length acc G5 with
                  | none => rw [eb] at p2; exact p2.elim
                  | some G6 =>
                    rw [eb] at p2
                    obtain ⟨e5, l5⟩ := back_some eb
                    subst e5
                    rintro z H5 μ5 s5 r5 g5
                    have em : μ5 = μ1 ++ [D] := by
                      refine ((s4.trans s5).pre.eq_of_length ?_).symm
                      rw [g5.len]
                      simp [l5, g3l]
                    subst em
                    have l6 : G6.length = μ1.length := l5.trans g3l
                    obtain ⟨vs', hD', r'⟩ := g5.at_ μ1.length D (.lst acc) (by simp) (by rw [← l6]; simp)
                    refine ⟨vs', hD', by rw [r'.length]; exact hz, acc ++ [y0], G6, ((st3.trans s4).trans s5).trans (.write (by simp)), ?_, p2⟩
                    have gw := g5.write (n := μ1.length) (a := D) (by simp) (r'.append (.cons r5 .nil))
                    rw [← l6] at gw
                    simpa using gw
                · rw [if_neg hz] at p2
                  exact p2.elim
    · rw [if_neg ok] at p2
      exact p2.elim
  · have e : xs.length ≤ i := by omega
    rw [List.drop_eq_nil_of_le e] at p2
    unfold compN at p2
    by_cases ok : s.ok (G2 ++ [.lst acc])
    · rw [if_pos ok] at p2
      exact .inl ⟨wk.stop H2 _ _ i s2 g2 ok e, new_done p2 s2 g2⟩
    · rw [if_neg ok] at p2
      exact p2.elim
/-! ### pairs -/
def zipD : List PyData → List PyData → List PyData
  | x :: xs, y :: ys => .tuple [x, y] :: zipD xs ys
  | _, _ => []
theorem zipD_len : ∀ xs ys : List PyData, (zipD xs ys).length = min xs.length ys.length
  | [], ys => by simp [zipD]
  | x :: xs, [] => by simp [zipD]
  | x :: xs, y :: ys => by
    rw [zipD, List.length_cons, zipD_len xs ys]
    simp only [List.length_cons]
    omega
theorem zipD_get : ∀ (xs ys : List PyData) (i : Nat) (x y : PyData), xs[i]? = some x → ys[i]? = some y → (zipD xs ys)[i]? = some (.tuple [x, y])
  | [], _, i, x, y, h, _ => by simp at h
  | _ :: _, [], i, x, y, _, h => by simp at h
  | a :: xs, b :: ys, 0, x, y, h1, h2 => by
    simp at h1 h2
    rw [h1, h2]
    rfl
  | a :: xs, b :: ys, i + 1, x, y, h1, h2 => by
    simp at h1 h2
    rw [zipD, List.getElem?_cons_succ]
    exact zipD_get xs ys i x y h1 h2
theorem walks_zipT {K : PySem.W.Frag} {T : List (Addr × Str)} {H0 : Hp} {μ0 : List Addr} {a b : Addr} {xs ys : List PyData} (hx : ∀ H μ, Step μ0 H0 μ H → ∃ vs, SqT K H a vs ∧ IsPs K H μ vs xs) (hy : ∀ H μ, Step μ0 H0 μ H → ∃ vs, SqT K H b vs ∧ IsPs K H μ vs ys) :
    Walks K T H0 μ0 (RZ.ItzT K a b) (zipD xs ys) .pure := by
  refine ⟨fun H μ G i st g ok hi => ?_, fun H μ G i y H' st g ok hi hq => ?_, fun H μ G i st g ok hi => ?_⟩
  · obtain ⟨vs, q, r⟩ := hx H μ st
    obtain ⟨us, q2, r2⟩ := hy H μ st
    rw [zipD_len] at hi
    have h1 : i < vs.length := by rw [r.length]; omega
    have h2 : i < us.length := by rw [r2.length]; omega
    exact ⟨vs, us, vs[i], us[i], q, q2, List.getElem?_eq_getElem h1, List.getElem?_eq_getElem h2⟩
  · obtain ⟨vs, q, r⟩ := hx H μ st
    obtain ⟨us, q2, r2⟩ := hy H μ st
    obtain ⟨t, x, y, rfl, ht, rfl, h1, h2⟩ := hq
    obtain ⟨d, e, p⟩ := r.getV (h1 vs q)
    obtain ⟨d2, e2, p2⟩ := r2.getV (h2 us q2)
    obtain ⟨s1, g1, p1⟩ := step_pair g ht p p2
    exact ⟨s1, g1, _, zipD_get _ _ _ _ _ e e2, p1⟩
  · obtain ⟨vs, q, r⟩ := hx H μ st
    obtain ⟨us, q2, r2⟩ := hy H μ st
    rw [zipD_len] at hi
    refine ⟨vs, us, q, q2, ?_⟩
    rw [r.length, r2.length]
    omega
theorem walks_zipL {K : PySem.W.Frag} {T : List (Addr × Str)} {H0 : Hp} {μ0 : List Addr} {a b : Addr} {xs ys : List PyData} (hx : ∀ H μ, Step μ0 H0 μ H → ∃ vs, SqL K H a vs ∧ IsPs K H μ vs xs) (hy : ∀ H μ, Step μ0 H0 μ H → ∃ vs, SqL K H b vs ∧ IsPs K H μ vs ys) :
    Walks K T H0 μ0 (Itz K a b) (zipD xs ys) .pure := by
  refine ⟨fun H μ G i st g ok hi => ?_, fun H μ G i y H' st g ok hi hq => ?_, fun H μ G i st g ok hi => ?_⟩
  · obtain ⟨vs, q, r⟩ := hx H μ st
    obtain ⟨us, q2, r2⟩ := hy H μ st
    rw [zipD_len] at hi
    have h1 : i < vs.length := by rw [r.length]; omega
    have h2 : i < us.length := by rw [r2.length]; omega
    exact ⟨vs, us, vs[i], us[i], q, q2, List.getElem?_eq_getElem h1, List.getElem?_eq_getElem h2⟩
  · obtain ⟨vs, q, r⟩ := hx H μ st
    obtain ⟨us, q2, r2⟩ := hy H μ st
    obtain ⟨t, x, y, rfl, ht, rfl, h1, h2⟩ := hq
    obtain ⟨d, e, p⟩ := r.getV (h1 vs q)
    obtain ⟨d2, e2, p2⟩ := r2.getV (h2 us q2)
    obtain ⟨s1, g1, p1⟩ := step_pair g ht p p2
    exact ⟨s1, g1, _, zipD_get _ _ _ _ _ e e2, p1⟩
  · obtain ⟨vs, q, r⟩ := hx H μ st
    obtain ⟨us, q2, r2⟩ := hy H μ st
    rw [zipD_len] at hi
    refine ⟨vs, us, q, q2, ?_⟩
    rw [r.length, r2.length]
    omega
/-- zip of two tuples, of two lists -/
def zipF : List DV → Ms → Option ((List PyData × Src) × Ms) := fun vs G => match vs with
  | [.d (.tuple xs), .d (.tuple ys)] => some ((zipD xs ys, .pure), G)
  | [.d (.list xs), .d (.list ys)] => some ((zipD xs ys, .pure), G)
  | _ => none
/-- what the two things are -/
theorem zipF_src {K : PySem.W.Frag} {T : List (Addr × Str)} {H : Hp} {μ : List Addr} {G G' : Ms} {ws : List V} {vs : List DV} {items : List PyData} {s : Src} (r : IsVs K H μ ws vs) (g : GR K T H μ G) (e : zipF vs G = some ((items, s), G')) :
    G' = G ∧ s = .pure ∧ ∃ a b xs ys, ws = [.ref a, .ref b] ∧ ((SqL K H a xs ∧ SqL K H b ys ∧ Walks K T H μ (Itz K a b) items .pure) ∨ (SqT K H a xs ∧ SqT K H b ys ∧ Walks K T H μ (RZ.ItzT K a b) items .pure)) := by
  unfold zipF at e
  split at e
  · rename_i xs ys
    cases e
    cases r with
    | cons r1 r2 =>
      cases r2 with
      | cons r2 r3 =>
        cases r3
        obtain ⟨_, _, a, rfl, ⟨vs1, h1⟩, w1⟩ := tupI_src (G := G) (s := .pure) (G' := G) r1 rfl
        obtain ⟨_, _, b, rfl, ⟨vs2, h2⟩, w2⟩ := tupI_src (G := G) (s := .pure) (G' := G) r2 rfl
        exact ⟨rfl, rfl, a, b, vs1, vs2, rfl, .inr ⟨h1, h2, walks_zipT w1 w2⟩⟩
  · rename_i xs ys
    cases e
    cases r with
    | cons r1 r2 =>
      cases r2 with
      | cons r2 r3 =>
        cases r3
        have q1 : IsP K H μ _ (.list xs) := r1
        have q2 : IsP K H μ _ (.list ys) := r2
        cases q1
        cases q2
        rename_i f1 h1 _ _ f2 h2
        exact ⟨rfl, rfl, _, _, _, _, rfl, .inl ⟨f1.sqL, f2.sqL, walks_zipL (fun H' μ' st => ⟨_, (f1.mono trivial st).sqL, IsPs.mono st h1⟩) (fun H' μ' st => ⟨_, (f2.mono trivial st).sqL, IsPs.mono st h2⟩)⟩⟩
  · cases e
section
variable {X : Cx} {T : List (Addr × Str)} {W : WX} {pos p tpos : Pos} {a b : Expr} {m : AM} {elts : List Expr} {kk : Nat}
theorem i_zip (hg : Gl X "zip") (hm : X.mg "zip" = none) (ha : PA X [a, b] (tL X.K X.mg T W m)) (hs : starEach [a, b] X.env = (false, eval a X.env) :: starEach [b] X.env := by rfl) (hpl : (backTo pos (starEach [b] X.env)).any (·.1) = false := by rfl) :
    PI X (.Tuple elts kk tpos) (.Call (.Name "zip" p) [a, b] [] pos) (tI X.K X.mg T W (iterA zipF m)) :=
  pi_weak (RZ.pi_zipA hg hm ha hs hpl) fun σ H Q h => by
    refine (tG.bind (R := RA X.K) (f := fun v ds G1 => liftO (zipF v G1)) h).mono ?_
    rintro y H1 ⟨μ1, ds, vs, G1, hs1, g1, r, pp⟩
    cases e1 : zipF vs G1 with
    | none => rw [e1] at pp; exact pp.elim
    | some q =>
      obtain ⟨⟨xs, s⟩, G2⟩ := q
      rw [e1] at pp
      obtain ⟨rfl, rfl, c, d, us, ws, rfl, hq⟩ := zipF_src r g1 e1
      refine ⟨c, d, us, ws, rfl, ?_⟩
      rcases hq with ⟨h1, h2, wk⟩ | ⟨h1, h2, wk⟩
      · exact .inl ⟨h1, h2, Post.okv (R := RI X.K T) pp g1 wk⟩
      · exact .inr ⟨h1, h2, Post.okv (R := RI X.K T) pp g1 wk⟩
/-! ### an iterator that stands in a name -/
/-- the things at fp stand as in h0, told beside H1 -/
structure Laid (X : Cx) (fp : List Addr) (h0 : Heap) (H1 H : Hp) : Prop where
  eq : ∀ b, H b = if b ∈ fp then some (HO.ext fun h => h.get? b = h0.get? b) else H1 b
  non : ∀ b ∈ fp, H1 b = none
  new : ∀ b ∈ fp, (b ∈ X.ex ∨ X.s_0.heap.objs.size ≤ b) ∧ b ≠ X.env.locals ∧ b ∉ X.fs
  some : ∀ b ∈ fp, ∃ o, h0.get? b = some o
theorem Laid.in_ {fp : List Addr} {h0 : Heap} {H1 H : Hp} (L : Laid X fp h0 H1 H) {b : Addr} (hb : b ∈ fp) : H b = Option.some (HO.ext fun h => h.get? b = h0.get? b) := by rw [L.eq, if_pos hb]
theorem Laid.out {fp : List Addr} {h0 : Heap} {H1 H : Hp} (L : Laid X fp h0 H1 H) {b : Addr} (hb : b ∉ fp) : H b = H1 b := by rw [L.eq, if_neg hb]
theorem Laid.put {fp : List Addr} {h0 : Heap} {H1 H : Hp} {pins : List (Addr × Obj)} {σ : L2.St} {s : Shared} (L : Laid X fp h0 H1 H) (I : Inv X pins σ H1 s) (e : ∀ b ∈ fp, s.heap.get? b = h0.get? b) (hf : ∀ b ∈ fp, FpOk X pins H1 b) : Inv X pins σ H s := by
  have keep : ∀ b u, H1 b = Option.some u → H b = Option.some u := fun b u q => by
    rw [L.out fun z => by rw [L.non b z] at q; cases q]
    exact q
  have old : ∀ b, b ∉ fp → H1 b = none → H b = none := fun b hb q => (L.out hb).trans q
  refine ⟨I.ok, I.os, I.bare, ⟨I.base.keep, I.base.slot, fun b o q n hx => ?_, I.base.there, fun b xs q => keep _ _ (I.base.tups b xs q), fun b o u q => keep _ _ (I.base.frzs b o u q), fun b ps q => ?_⟩, I.loc, I.cell, ?_, fun x c q => ?_, fun p hp => ?_, fun b u q => ?_, I.len⟩
  · refine old b (fun hb => ?_) (I.base.free b o q n hx)
    rcases (L.new b hb).1 with z | z
    · exact hx z
    · exact absurd (Heap.lt_size q) (Nat.not_lt.mpr z)
  · obtain ⟨more, z⟩ := I.base.tbls b ps q
    exact ⟨more, keep _ _ z⟩
  · exact old _ (fun hb => (L.new _ hb).2.1 rfl) I.free
  · exact old _ (fun hb => (hf _ hb).2.2.2.2.1 x c q rfl) (I.freeC x c q)
  · obtain ⟨z1, z2, z3, z4, z5⟩ := I.pin p hp
    exact ⟨z1, old _ (fun hb => (hf _ hb).2.2.2.2.2 p hp rfl) z2, z3, z4, z5⟩
  · by_cases hb : b ∈ fp
    · rw [L.in_ hb] at q
      cases q
      obtain ⟨o, ho⟩ := L.some b hb
      exact ⟨e b hb, ⟨o, (e b hb).trans ho⟩, fun h1 h2 z k => by rw [ho] at z ⊢; exact k o z⟩
    · rw [L.out hb] at q
      exact (I.hok b u q).stay (fun _ _ _ z => z) (fun c z => keep _ _ z) fun c xs z => keep _ _ z
theorem Laid.drop {fp : List Addr} {h0 : Heap} {H1 H : Hp} {pins : List (Addr × Obj)} {σ : L2.St} {s : Shared} (L : Laid X fp h0 H1 H) (I : Inv X pins σ H s) : Inv X pins σ H1 s ∧ (∀ b ∈ fp, s.heap.get? b = h0.get? b) ∧ ∀ b ∈ fp, FpOk X pins H1 b := by
  have back : ∀ b u, H b = Option.some u → (∀ φ, u ≠ .ext φ) → H1 b = Option.some u := fun b u q n => by
    by_cases hb : b ∈ fp
    · rw [L.in_ hb] at q
      cases q
      exact absurd rfl (n _)
    · rw [L.out hb] at q
      exact q
  have non : ∀ b, H b = none → H1 b = none := fun b q => by
    by_cases hb : b ∈ fp
    · exact L.non b hb
    · rw [L.out hb] at q
      exact q
  have is : ∀ b ∈ fp, s.heap.get? b = h0.get? b := fun b hb => (I.hok b _ (L.in_ hb)).1
  refine ⟨⟨I.ok, I.os, I.bare, ⟨I.base.keep, I.base.slot, fun b o q n hx => non b (I.base.free b o q n hx), I.base.there, fun b xs q => back _ _ (I.base.tups b xs q) (by intro φ z; cases z), fun b o u q => back _ _ (I.base.frzs b o u q) (by intro φ z; cases z), fun b ps q => ?_⟩, I.loc, I.cell, non _ I.free, fun x c q => non _ (I.freeC x c q), fun p hp => ?_, fun b u q => ?_, I.len⟩, is, fun b hb => ⟨L.non b hb, (L.new b hb).2.1, (L.new b hb).2.2, (L.new b hb).1, fun x c q z => ?_, fun p hp z => ?_⟩⟩
  · obtain ⟨more, z⟩ := I.base.tbls b ps q
    exact ⟨more, back _ _ z (by intro φ z; cases z)⟩
  · obtain ⟨z1, z2, z3, z4, z5⟩ := I.pin p hp
    exact ⟨z1, non _ z2, z3, z4, z5⟩
  · have hb : b ∉ fp := fun z => by rw [L.non b z] at q; cases q
    have q' : H b = Option.some u := by rw [L.out hb]; exact q
    exact (I.hok b u q').stay (fun _ _ _ z => z) (fun c z => back _ _ z (by intro φ z; cases z)) fun c xs z => back _ _ z (by intro φ z; cases z)
  · have f := I.freeC x c q
    rw [z, L.in_ hb] at f
    cases f
  · have f := (I.pin p hp).2.1
    rw [z, L.in_ hb] at f
    cases f
/-- the name's iterator -/
def wStood (X : Cx) (tg : Expr) (i : Nat) : TI := fun σ H R => ∃ (fp : List Addr) (h0 : Heap) (it : Addr) (tn : Nat → Heap → Prop) (J : It) (H1 : Hp), σ[i]? = some (some (.ref it)) ∧ Laid X fp h0 H1 H ∧ Turn X.prog X.w X.K tg J fp it tn ∧ tn 0 h0 ∧ R J H1
theorem pi_stood {i : Nat} {x : Str} {tg : Expr} {pos : Pos} (hN : X.N[i]? = some x) (hv : Vis X.env.scope x) (hd : (x == ("__debug__" : Str)) = false := by decide) (hcd : (x == ("__classdict__" : Str)) = false := by decide) : PI X tg (.Name x pos) (wStood X tg i) := by
  refine ⟨fun pins s σ H R I h => ?_⟩
  obtain ⟨fp, h0, it, tn, J, H1, e, L, tu, t0, q⟩ := h
  refine thn ((pe_var hN hv hd hcd).run pins s σ H (fun y H' => y = .ref it ∧ H' = H) I ⟨_, e, rfl, rfl⟩) fun v s1 ⟨y, H', I', r, hy, hH⟩ => ?_
  subst hy hH
  cases (show v = Value.ref it from r)
  obtain ⟨I1, is, hf⟩ := L.drop I'
  have t1 : tn 0 s1.heap := tu.keep 0 h0 s1.heap t0 fun b hb o z => by rw [is b hb]; exact z
  exact tu.self _ 0 s1 _ _ t1 ⟨it, fp, tn, J, H1, rfl, I1, tu, t1, hf, q⟩
/-- zip(a, b) as a value -/
def tZip (X : Cx) (tg : Expr) (ta : TA) : TE := fun σ H Q => ta σ H fun vs H1 => ∃ a b xs ys, vs = [.ref a, .ref b] ∧
  ((SqL X.K H1 a xs ∧ SqL X.K H1 b ys ∧ ∀ fp h0 it tn H', Laid X fp h0 H1 H' → Turn X.prog X.w X.K tg (Itz X.K a b) fp it tn → tn 0 h0 → Q (.ref it) H') ∨
   (SqT X.K H1 a xs ∧ SqT X.K H1 b ys ∧ ∀ fp h0 it tn H', Laid X fp h0 H1 H' → Turn X.prog X.w X.K tg (RZ.ItzT X.K a b) fp it tn → tn 0 h0 → Q (.ref it) H'))
theorem pe_zipV {ta : TA} (hg : Gl X "zip") (hm : X.mg "zip" = none) (ha : PA X [a, b] ta) (hs : starEach [a, b] X.env = (false, eval a X.env) :: starEach [b] X.env := by rfl) (hpl : (backTo pos (starEach [b] X.env)).any (·.1) = false := by rfl) :
    PE X (.Call (.Name "zip" p) [a, b] [] pos) (tZip X (.Tuple elts kk tpos) ta) := by
  refine ⟨fun pins s σ H Q I h => ?_⟩
  refine Call_ (ld_blt I hg hm PyProof.Rows.boot_zip (PyProof.Rows.callWith_type1 (thn (ha.run pos pins s σ H _ I h) fun us s1 ⟨vs, H1, I1, r1, q1⟩ => ?_) hs hpl))
  obtain ⟨a, b, xs, ys, ex, q1⟩ := q1
  subst ex
  cases r1 with
  | cons r rr =>
    cases rr with
    | cons r' rr =>
      cases rr
      cases r
      cases r'
      have ge5 : ∀ c, c ∈ [s1.heap.objs.size + 4, s1.heap.objs.size + 2, s1.heap.objs.size + 3, s1.heap.objs.size, s1.heap.objs.size + 1] → s1.heap.objs.size ≤ c := fun c hc => by
        simp only [List.mem_cons, List.not_mem_nil, or_false] at hc
        omega
      have fin : ∀ {h' : Heap} {J : It} {tn : Nat → Heap → Prop}, (∀ c o, s1.heap.get? c = some o → h'.get? c = some o) →
          Turn X.prog X.w X.K (.Tuple elts kk tpos) J [s1.heap.objs.size + 4, s1.heap.objs.size + 2, s1.heap.objs.size + 3, s1.heap.objs.size, s1.heap.objs.size + 1] (s1.heap.objs.size + 4) tn → tn 0 h' →
          (∀ fp h0 it tn H', Laid X fp h0 H1 H' → Turn X.prog X.w X.K (.Tuple elts kk tpos) J fp it tn → tn 0 h0 → Q (.ref it) H') → EP X pins σ Q (.ref (s1.heap.objs.size + 4)) { s1 with heap := h' } := by
        intro h' J tn hk tu t0 q
        have I2 : Inv X pins σ H1 { s1 with heap := h' } := I1.kept (t' := s1.toks) hk
        have hf : ∀ c ∈ [s1.heap.objs.size + 4, s1.heap.objs.size + 2, s1.heap.objs.size + 3, s1.heap.objs.size, s1.heap.objs.size + 1], FpOk X pins H1 c := fun c hc => I1.fpOk (ge5 c hc) (I1.hok.fresh (ge5 c hc))
        have L : Laid X [s1.heap.objs.size + 4, s1.heap.objs.size + 2, s1.heap.objs.size + 3, s1.heap.objs.size, s1.heap.objs.size + 1] h' H1 (fun c => if c ∈ [s1.heap.objs.size + 4, s1.heap.objs.size + 2, s1.heap.objs.size + 3, s1.heap.objs.size, s1.heap.objs.size + 1] then some (HO.ext fun h => h.get? c = h'.get? c) else H1 c) :=
          ⟨fun c => rfl, fun c hc => (hf c hc).1, fun c hc => ⟨(hf c hc).2.2.2.1, (hf c hc).2.1, (hf c hc).2.2.1⟩, fun c hc => by obtain ⟨o, ho, _⟩ := tu.obj 0 h' t0 c hc; exact ⟨o, ho⟩⟩
        exact ⟨.ref (s1.heap.objs.size + 4), _, L.put I2 (fun _ _ => rfl) hf, rfl, q _ _ _ _ _ L tu t0⟩
      rcases q1 with ⟨hqx, hqy, q⟩ | ⟨hqx, hqy, q⟩
      · obtain ⟨its, rv, p1, _⟩ := I1.list hqx
        obtain ⟨its2, rv2, p2, _⟩ := I1.list hqy
        refine call_zip_2 p1.isList p2.isList fun h' hz hTI hTO h1 h2 hsz hk => ?_
        exact fin hk (turn_zip (PySem.W.ktu_apart s1.heap.objs.size a b p1.lt p2.lt)) ⟨hz, hTI, ⟨_, _, hTO⟩, h1, h2⟩ q
      · obtain ⟨its, rv, p1, _⟩ := I1.tuple hqx
        obtain ⟨its2, rv2, p2, _⟩ := I1.tuple hqy
        obtain ⟨o1, ho1, _⟩ := id p1
        obtain ⟨o2, ho2, _⟩ := id p2
        refine RZ.call_zipT (show s1.heap.IsTuple a its.toArray from p1) (show s1.heap.IsTuple b its2.toArray from p2) fun h' hz hTI hTO h1 h2 hsz hk => ?_
        exact fin hk (RZ.turn_zipT (PySem.W.ktu_apart s1.heap.objs.size a b (Heap.lt_size ho1) (Heap.lt_size ho2))) ⟨hz, hTI, ⟨_, _, hTO⟩, h1, h2⟩ q
/-- [e for tgt in zip(a, b)], the zip kept in the name i meanwhile -/
noncomputable def zlcE (i : Nat) (vs : List Nat) (m : AM) (t : TM) (c : BM) (e : EM) : EM := fun ds G => (m ds G).bind fun ws G1 => if i < ds.length then (liftO (zipF ws G1)).bind fun q G2 => (compN t c e q.2 (wipeD (ds.set i none) vs) q.1 [] G2).bind fun acc G3 => newL true acc G3 else .bad
theorem ER.bind_assoc {α β γ : Type} (r : ER α) (f : α → Ms → ER β) (g : β → Ms → ER γ) : (r.bind f).bind g = r.bind fun v G => (f v G).bind g := by cases r <;> rfl
theorem d_zipIn {i : Nat} {x : Str} {own : List (Str × Nat)} {g : TG} {t : TM} {ba : BM} {ma : EM} {elt : Expr} {ifs : List Expr} {scope : Scope} {pz pn px p1 p2 lpos : Pos} (hc : X.calm = true) (hN : X.N.Nodup) (hi : X.N[i]? = some x) (hx : X.env.scope.names.lookup x = some .local)
    (hg : Gl X "zip") (hm : X.mg "zip" = none) (ha : PA X [a, b] (tL X.K X.mg T W m)) (ok : BlkOk X.N X.env.scope scope own)
    (hgt : ∀ (s : Shared) (H : Hp) (C : Addr) (cl : List (Str × Addr)) (fp : List Addr), PG (X.blk s H scope (compEnvC scope cl C X.env) fp) (.Tuple elts kk tpos) g) (cg : CG X.K T (own.map (·.2)) g t)
    (ht : ∀ (s : Shared) (H : Hp) (C : Addr) (cl : List (Str × Addr)) (fp : List Addr), PTs (X.blk s H scope (compEnvC scope cl C X.env) fp) ifs (tB X.K X.mg T W0 ba))
    (he : ∀ (s : Shared) (H : Hp) (C : Addr) (cl : List (Str × Addr)) (fp : List Addr), PE (X.blk s H scope (compEnvC scope cl C X.env) fp) elt (tE X.K X.mg T W0 ma)) {f : CaF} {ret : Stmt}
    (hret : ∀ te : TE, PE X (.ListComp elt [⟨.Tuple elts kk tpos, .Name x pn, ifs, 0⟩] scope lpos) te → PS X ret (tRet (tCB (rC X.K T f) (tCons te tNil))))
    (hs : ∀ v, foldedSetIterable (.Name x pn) X.env v = pure v := by intro _; rfl) (hsw : swapsWith (.Call (.Name "zip" pz) [a, b] [] p1) (some (.Name x px)) p2.line X.env = pure false := by rfl)
    (hs2 : starEach [a, b] X.env = (false, eval a X.env) :: starEach [b] X.env := by rfl) (hpl : (backTo p1 (starEach [b] X.env)).any (·.1) = false := by rfl)
    (hd : (x == ("__debug__" : Str)) = false := by decide) (hcd : (x == ("__classdict__" : Str)) = false := by decide) :
    PSs X [.Assign [.Name x px] (.Call (.Name "zip" pz) [a, b] [] p1) p2, ret] (tS X.K X.mg T W (retS (callE f (consA (zlcE i (own.map (·.2)) m t ba ma) nilA)))) := by
  refine pss_weak (pss_cons (ps_set hN hi (.inl hx) (pe_zipV (elts := elts) (kk := kk) (tpos := tpos) hg hm ha hs2 hpl) hsw (.inr hx)) (pss_one (hret _ (pe_lc hc hN (pi_stood hi (.inl hx) hd hcd) ok hgt ht he hs)))) fun D σ H h => ?_
  have h1 : tG X.K X.mg T (RV X.K) W (fun ds G => (m ds G).bind fun ws G1 => (if i < ds.length then ((((liftO (zipF ws G1)).bind fun q G2 => ((compN t ba ma q.2 (wipeD (ds.set i none) (own.map (·.2))) q.1 [] G2).bind fun acc G3 => newL true acc G3).bind fun v G1 => liftO (f [v] G1)))) else .bad)) σ H D.rt := by
    obtain ⟨μ, ds, G, hs1, g, p⟩ := h
    refine ⟨μ, ds, G, hs1, g, ?_⟩
    have e : retS (callE f (consA (zlcE i (own.map (·.2)) m t ba ma) nilA)) ds G = eS ((m ds G).bind fun ws G1 => (if i < ds.length then ((((liftO (zipF ws G1)).bind fun q G2 => ((compN t ba ma q.2 (wipeD (ds.set i none) (own.map (·.2))) q.1 [] G2).bind fun acc G3 => newL true acc G3).bind fun v G1 => liftO (f [v] G1)))) else .bad)) ds fun v G1 => .rt v G1 := by
      unfold retS callE consA zlcE nilA
      simp only [ER.bind_assoc]
      congr 2
      funext ws G1
      by_cases c : i < ds.length
      · simp only [if_pos c, ER.bind_assoc]
        rfl
      · simp only [if_neg c]
        rfl
    rw [e] at p
    exact (SPost.ofE (R := RV X.K) (k := fun v G1 => .rt v G1) p hs1).mono fun y H1 ⟨μ1, v, G1, s, r, g1, q⟩ => q y H1 μ1 (.refl _ _) r g1
  refine (tG.bind (R := RA X.K) (f := fun ws ds G1 => (if i < ds.length then ((((liftO (zipF ws G1)).bind fun q G2 => ((compN t ba ma q.2 (wipeD (ds.set i none) (own.map (·.2))) q.1 [] G2).bind fun acc G3 => newL true acc G3).bind fun v G1 => liftO (f [v] G1)))) else .bad)) h1).mono ?_
  rintro y H1 ⟨μ1, ds, ws, G1, hs1, g1, r, p⟩
  by_cases c : i < ds.length
  · rw [if_pos c] at p
    cases e1 : zipF ws G1 with
    | none => rw [e1] at p; exact p.elim
    | some q =>
      obtain ⟨⟨items, s⟩, G2⟩ := q
      rw [e1] at p
      obtain ⟨rfl, rfl, a', b', us, ws', rfl, hq⟩ := zipF_src r g1 e1
      have p2 : Post X.K X.mg T (RV X.K) W σ μ1 H1 (fun x H3 => rC X.K T f [x] H3 D.rt) ((compN t ba ma .pure (wipeD (ds.set i none) (own.map (·.2))) items [] G2).bind fun acc G3 => newL true acc G3) := by
        refine (Post.bind (R := RV X.K) (f := fun v G1 => liftO (f [v] G1)) p).mono ?_
        rintro x H2 ⟨μ2, v, G3, s, r2, g2, q⟩
        obtain ⟨w, G', e, o⟩ := out_of q
        exact ⟨μ2, [v], G3, w, G', .cons r2 .nil, g2, e, o⟩
      have fin : ∀ {J : It}, Walks X.K T H1 μ1 J items .pure → ∀ fp h0 it tn H', Laid X fp h0 H1 H' → Turn X.prog X.w X.K (.Tuple elts kk tpos) J fp it tn → tn 0 h0 →
          tRet (tCB (rC X.K T f) (tCons (tLc (wStood X (.Tuple elts kk tpos) i) g (tB X.K X.mg T W0 ba) (tE X.K X.mg T W0 ma) (own.map (·.2))) tNil)) D (σ.set i (some (.ref it))) H' := by
        intro J wk fp h0 it tn H' L tu t0
        refine ⟨fp, h0, it, tn, J, H1, ?_, L, tu, t0, lc_read (fz := true) cg (hs1.forget i (some (.ref it))) g1 wk p2⟩
        have : i < σ.length := by rw [hs1.len]; exact c
        simp [this]
      refine ⟨a', b', us, ws', rfl, ?_⟩
      rcases hq with ⟨q1, q2, wk⟩ | ⟨q1, q2, wk⟩
      · exact .inl ⟨q1, q2, fin wk⟩
      · exact .inr ⟨q1, q2, fin wk⟩
  · rw [if_neg c] at p
    exact p.elim
end
end DL
/-! DZb: min of rows; l.index(n). -/
namespace DL
open PySem PySem.Spec PyProof.Rows L2 LamX
theorem rowsD_eq : ∀ {xs : List PyData} {ks : List (List Int)}, rowsD xs = some ks → xs = ks.map rowT
  | [], _, e => by cases e; rfl
  | x :: xs, ks, e => by
    have e' : (match rowD x, rowsD xs with | some k, some ks => some (k :: ks) | _, _ => none) = some ks := e
    cases h1 : rowD x with
    | none => rw [h1] at e'; cases e'
    | some k =>
      cases h2 : rowsD xs with
      | none => rw [h1, h2] at e'; cases e'
      | some ms =>
        rw [h1, h2] at e'
        cases e'
        rw [(rowD_eq h1).1, rowsD_eq h2]
        rfl
theorem dataLt_rows (p q : List Int) : PySem.W.dataLt (rowT q) (rowT p) = !leR p q := by
  have h := dataLe_tup (0, p) (0, q)
  rw [PySem.W.dataLe_eq] at h
  have h' : (!PySem.W.dataLt (rowT q) (rowT p)) = leR p q := h
  rw [← h', Bool.not_not]
theorem alike_ints : ∀ a b : List Int, PySem.W.alikeAll (a.map .int) (b.map .int) = true
  | [], _ => by simp [PySem.W.alikeAll]
  | _ :: _, [] => by simp [PySem.W.alikeAll]
  | x :: a, y :: b => by simp [PySem.W.alikeAll, PySem.W.alike, alike_ints a b]
theorem alikeRows (ks : List (List Int)) : PySem.W.AlikeAll (ks.map rowT) := by
  refine ⟨fun x hx y hy => ?_, fun x hx => ?_⟩
  · obtain ⟨a, _, rfl⟩ := List.mem_map.mp hx
    obtain ⟨b, _, rfl⟩ := List.mem_map.mp hy
    show PySem.W.alike (.tuple _) (.tuple _) = true
    rw [PySem.W.alike]
    exact alike_ints a b
  · obtain ⟨a, _, rfl⟩ := List.mem_map.mp hx
    intro z
    cases z
theorem plain_intsD : ∀ r : List Int, PyData.plainAll (r.map PyData.int) = true
  | [] => rfl
  | x :: r => by
    rw [List.map_cons, PyData.plainAll, plain_intsD r]
    rfl
theorem depth_intsD : ∀ r : List Int, PyData.depthAll (r.map PyData.int) = 0 ∨ PyData.depthAll (r.map PyData.int) ≤ 1
  | [] => .inl rfl
  | x :: r => by
    rw [List.map_cons, PyData.depthAll]
    have := depth_intsD r
    simp only [PyData.depth]
    omega
theorem plain_rowT (k : List Int) : (rowT k).plain = true := by
  show (PyData.tuple _).plain = true
  rw [PyData.plain]
  exact plain_intsD k
theorem plain_rowsT : ∀ ks : List (List Int), PyData.plainAll (ks.map rowT) = true
  | [] => rfl
  | k :: ks => by rw [List.map_cons, PyData.plainAll, plain_rowT, plain_rowsT ks]; rfl
theorem depth_rowsT : ∀ ks : List (List Int), PyData.depthAll (ks.map rowT) ≤ 3
  | [] => Nat.zero_le _
  | k :: ks => by
    rw [List.map_cons, PyData.depthAll]
    have h1 := depth_rowsT ks
    have h2 : (rowT k).depth ≤ 2 := by
      show (PyData.tuple _).depth ≤ 2
      rw [PyData.depth]
      have := depth_intsD k
      omega
    omega
/-- the first least row -/
def minRow (k : List Int) (ks : List (List Int)) : List Int := ks.foldl (fun a y => if leR a y = true then a else y) k
theorem minD_rows : ∀ (ks : List (List Int)) (k : List Int), PySem.W.minD (rowT k) (ks.map rowT) = rowT (minRow k ks)
  | [], k => rfl
  | y :: ks, k => by
    have h : PySem.W.minD (rowT k) ((y :: ks).map rowT) = PySem.W.minD (if PySem.W.dataLt (rowT y) (rowT k) then rowT y else rowT k) (ks.map rowT) := rfl
    have h2 : minRow k (y :: ks) = minRow (if leR k y = true then k else y) ks := rfl
    rw [h, h2, dataLt_rows]
    by_cases c : leR k y = true
    · rw [c, if_pos rfl, ← minD_rows ks k]
      rfl
    · have c' : leR k y = false := by simpa using c
      rw [c', if_neg Bool.false_ne_true, ← minD_rows ks y]
      rfl
def minRowF : CaF := fun vs G => match vs with
  | [v] => match (lstOf G v).bind rowsD with
    | some (k :: ks) => some (.d (rowT (minRow k ks)), G)
    | _ => none
  | _ => none
section
variable {X : Cx} {T : List (Addr × Str)} {W : WX}
theorem c_minR (hc : X.calm = true) (hu : X.A.units + 200 < cLine) : CallR X (.builtin "min") (rC X.K T minRowF) := by
  rintro pins s σ H ys us Q I ru ⟨μ, vs, G, w, G', r, g, e, o⟩
  unfold minRowF at e
  split at e
  · rename_i v
    split at e
    · rename_i k ks e1
      cases e
      obtain ⟨y, rfl, r1⟩ := isVs1 r
      obtain ⟨xs, h1, h2⟩ := Option.bind_eq_some_iff.mp e1
      obtain ⟨a, ws, rfl, q, p⟩ := lst_at r1 g h1
      have ex := rowsD_eq h2
      subst ex
      obtain ⟨its, rv, ⟨oo, n', ho, hcl, hx, hd⟩, _⟩ := I.list (xs := ws) (.of q)
      obtain ⟨as, rd⟩ := IsPs.reads I p rv (plain_rowsT _)
      cases ru with
      | cons ru1 ru2 =>
        cases ru2
        cases ru1
        have dp := depth_rowsT (k :: ks)
        refine PySem.W.min_list_data (x := rowT k) (xs := ks.map rowT) (as := as) (I.ok.hd hc) ⟨oo, ho, hcl, n', hd⟩ (by simpa using rd) (alikeRows (k :: ks)) (by show X.A.units + 1 + PyData.depthAll ((k :: ks).map rowT) < _; omega) fun i v h' tk bs hi r2 hk => ?_
        have hi' : its[i]? = some v := by simpa using hi
        have hl : i < ws.length := by rw [rv.length]; exact (List.getElem?_eq_some_iff.mp hi').1
        have hw : ws[i]? = some ws[i] := List.getElem?_eq_getElem hl
        obtain ⟨u, hu2, ru⟩ := rv.get hw
        rw [hi'] at hu2
        cases hu2
        obtain ⟨d, hd2, pd⟩ := p.getV hw
        have hm : d ∈ (k :: ks).map rowT := List.mem_of_getElem? hd2
        obtain ⟨kk, _, rfl⟩ := List.mem_map.mp hm
        obtain ⟨as2, rd2⟩ := IsP.reads I pd ru (plain_rowT kk)
        have rd3 := PyProof.Rows.Reads.keeps hk rd2
        have ed := (PySem.Reads.unique rd3 _ _ r2).1
        rw [minD_rows] at ed
        rw [ed] at pd
        exact ⟨ws[i], H, I.kept (t' := tk) hk, ru, o.here g pd⟩
    · cases e
  · cases e
theorem idx_le : ∀ {ns : List Int} {m : Nat} {i : Int}, ns[m]? = some i → ns.idxOf i ≤ m
  | [], m, i, h => by simp at h
  | x :: ns, 0, i, h => by
    simp at h
    subst h
    simp
  | x :: ns, m + 1, i, h => by
    rw [List.getElem?_cons_succ] at h
    have := idx_le h
    rw [List.idxOf_cons]
    cases x == i <;> simp
    omega
/-- l.index(n), numbers -/
def indexF : MeF := fun v vs G => match v, vs with
  | .d (.list xs), [.d (.int i)] => match intsD xs with
    | some ns => if i ∈ ns then some (.d (.int (ns.idxOf i : Nat)), G) else none
    | none => none
  | _, _ => none
theorem m_index : MtR X "list.index" (rM X.K T indexF) := by
  rintro pins s σ H x xs v us Q I rx rs ⟨μ, v', vs, G, w, G', r1, r2, g, e, o⟩
  unfold indexF at e
  split at e
  · rename_i ys i
    split at e
    · rename_i ns hn
      split at e
      · rename_i hm
        cases e
        obtain ⟨y, rfl, ry⟩ := isVs1 r2
        cases isV_int ry
        obtain ⟨a, ws, rfl, q, p⟩ := lst_at (G := G) r1 g rfl
        have ew := intsD_ps p hn
        subst ew
        have hj : ns.idxOf i < ns.length := List.idxOf_lt_length_iff.mpr hm
        refine mt_index pins s σ H _ _ v us Q I rx rs ⟨a, ns.map V.int, .int i, ns.idxOf i, .int i, rfl, rfl, .of q, rfl, ?_, ?_, ?_, ?_, o.here g (.int _)⟩
        · rw [List.all_map]
          exact List.all_eq_true.mpr fun _ _ => rfl
        · rw [List.getElem?_map, List.getElem?_eq_getElem hj]
          simp
        · simp [eqV]
        · intro m z' hlt hz
          rw [List.getElem?_map] at hz
          cases hk : ns[m]? with
          | none => rw [hk] at hz; cases hz
          | some n =>
            rw [hk] at hz
            cases hz
            have hml : m < ns.length := by omega
            have : n ≠ i := fun z => by
              subst z
              have e1 : ns[m] = n := by
                rw [List.getElem?_eq_getElem hml] at hk
                exact Option.some.inj hk
              have := idx_le hk
              omega
            simpa [eqV] using this
      · cases e
    · cases e
  · cases e
end
end DL
/-! DHa: rows by which simp runs programs of the layer D: the first part alone is looked at, then the rest. -/
namespace DL
open PySem PySem.Spec PyProof.Rows L2 LamX

/-- behind a statement the rest -/
def SR.seq (r : SR) (k : Sl → Ms → SR) : SR := match r with
  | .nx ds G => k ds G
  | r => r
/-- behind a turn of a loop the rest -/
def SR.turn (r : SR) (k : Sl → Ms → SR) : SR := match r with
  | .nx ds G => k ds G
  | .ct ds G => k ds G
  | .bk ds G => .nx ds G
  | r => r
def SR.catch (r : SR) (k : XD → Sl → Ms → SR) : SR := match r with
  | .exn x ds G => k x ds G
  | r => r
section
variable (ds : Sl) (G : Ms) (v : DV) (x : XD) (k : Sl → Ms → SR) (kx : XD → Sl → Ms → SR)
@[simp] theorem seq_nx : (SR.nx ds G).seq k = k ds G := (rfl)
@[simp] theorem seq_rt : (SR.rt v G).seq k = .rt v G := (rfl)
@[simp] theorem seq_exn : (SR.exn x ds G).seq k = .exn x ds G := (rfl)
@[simp] theorem seq_bk : (SR.bk ds G).seq k = .bk ds G := (rfl)
@[simp] theorem seq_ct : (SR.ct ds G).seq k = .ct ds G := (rfl)
@[simp] theorem seq_bad : (SR.bad).seq k = .bad := (rfl)
@[simp] theorem turn_nx : (SR.nx ds G).turn k = k ds G := (rfl)
@[simp] theorem turn_ct : (SR.ct ds G).turn k = k ds G := (rfl)
@[simp] theorem turn_bk : (SR.bk ds G).turn k = .nx ds G := (rfl)
@[simp] theorem turn_rt : (SR.rt v G).turn k = .rt v G := (rfl)
@[simp] theorem turn_exn : (SR.exn x ds G).turn k = .exn x ds G := (rfl)
@[simp] theorem turn_bad : (SR.bad).turn k = .bad := (rfl)
@[simp] theorem catch_nx : (SR.nx ds G).catch kx = .nx ds G := (rfl)
@[simp] theorem catch_rt : (SR.rt v G).catch kx = .rt v G := (rfl)
@[simp] theorem catch_exn : (SR.exn x ds G).catch kx = kx x ds G := (rfl)
@[simp] theorem catch_bad : (SR.bad).catch kx = .bad := (rfl)
variable (c : Prop) [Decidable c]
@[simp] theorem seq_ite (a b : SR) : (if c then a else b).seq k = if c then a.seq k else b.seq k := by split <;> rfl
@[simp] theorem turn_ite (a b : SR) : (if c then a else b).turn k = if c then a.turn k else b.turn k := by split <;> rfl
@[simp] theorem catch_ite (a b : SR) : (if c then a else b).catch kx = if c then a.catch kx else b.catch kx := by split <;> rfl
@[simp] theorem bind_ite {α β : Type} (a b : ER α) (f : α → Ms → ER β) : (if c then a else b).bind f = if c then a.bind f else b.bind f := by split <;> rfl
@[simp] theorem eS_ite {α : Type} (a b : ER α) (f : α → Ms → SR) : eS (if c then a else b) ds f = if c then eS a ds f else eS b ds f := by split <;> rfl
@[simp] theorem liftO_ite {α : Type} (a b : Option (α × Ms)) : liftO (if c then a else b) = if c then liftO a else liftO b := by split <;> rfl
@[simp] theorem exitM_ite (cut : Nat → DV → Ms → ER DV) (n : Nat) (a b : SR) : exitM cut n (if c then a else b) = if c then exitM cut n a else exitM cut n b := by split <;> rfl
end
def afterSet (ds : Sl) : Option Ms → SR
  | some G => .nx ds G
  | none => .bad
@[simp] theorem afterSet_some (ds : Sl) (G : Ms) : afterSet ds (some G) = .nx ds G := (rfl)
def thenA (o : Option (List PyData)) (k : List PyData → ER (List DV)) : ER (List DV) := match o with
  | some xs => k xs
  | none => .bad
@[simp] theorem thenA_some (xs : List PyData) (k : List PyData → ER (List DV)) : thenA (some xs) k = k xs := (rfl)
def exnOf (name : Str) (fs : List Str) (ds : Sl) (G : Ms) : Option (List PyData) → SR
  | some xs => if xs.length = fs.length then .exn ⟨name, (fs.zip xs).reverse⟩ ds G else .bad
  | none => .bad
@[simp] theorem exnOf_some (name : Str) (fs : List Str) (ds : Sl) (G : Ms) (xs : List PyData) : exnOf name fs ds G (some xs) = if xs.length = fs.length then .exn ⟨name, (fs.zip xs).reverse⟩ ds G else .bad := (rfl)
/-! ### what is done behind, by names: simp does not look into it -/
def bin2K (f : OpF) (v : DV) : DV → Ms → ER DV := fun u G => liftO (f v u G)
@[simp] theorem bin2K_ap (f : OpF) (v : DV) (u G) : bin2K f v u G = liftO (f v u G) := (rfl)
def binK (f : OpF) (mb : EM) (ds : Sl) : DV → Ms → ER DV := fun v G => (mb ds G).bind (bin2K f v)
@[simp] theorem binK_ap (f : OpF) (mb : EM) (ds : Sl) (v G) : binK f mb ds v G = (mb ds G).bind (bin2K f v) := (rfl)
def liftK {α β : Type} (f : α → Ms → Option (β × Ms)) : α → Ms → ER β := fun v G => liftO (f v G)
@[simp] theorem liftK_ap {α β : Type} (f : α → Ms → Option (β × Ms)) (v G) : liftK f v G = liftO (f v G) := (rfl)
def cons2K (v : DV) : List DV → Ms → ER (List DV) := fun vs G => .ok (v :: vs) G
@[simp] theorem cons2K_ap (v : DV) (vs G) : cons2K v vs G = .ok (v :: vs) G := (rfl)
def consK (m : AM) (ds : Sl) : DV → Ms → ER (List DV) := fun v G => (m ds G).bind (cons2K v)
@[simp] theorem consK_ap (m : AM) (ds : Sl) (v G) : consK m ds v G = (m ds G).bind (cons2K v) := (rfl)
def truK : DV → Ms → ER Bool := fun v G => ofO G (truth v G)
@[simp] theorem truK_ap (v G) : truK v G = ofO G (truth v G) := (rfl)
def valK : DV → Ms → ER Bool := fun v G => ofO G (isB v)
@[simp] theorem valK_ap (v G) : valK v G = ofO G (isB v) := (rfl)
def notBK : Bool → Ms → ER Bool := fun k G => .ok (!k) G
@[simp] theorem notBK_ap (k G) : notBK k G = .ok (!k) G := (rfl)
def andBK (d : BM) (ds : Sl) : Bool → Ms → ER Bool := fun k G => if k = true then d ds G else .ok false G
@[simp] theorem andBK_ap (d : BM) (ds : Sl) (k G) : andBK d ds k G = if k = true then d ds G else .ok false G := (rfl)
def orBK (d : BM) (ds : Sl) : Bool → Ms → ER Bool := fun k G => if k = true then .ok true G else d ds G
@[simp] theorem orBK_ap (d : BM) (ds : Sl) (k G) : orBK d ds k G = if k = true then .ok true G else d ds G := (rfl)
def and2K (mb : EM) (ds : Sl) : Bool → Ms → ER DV := fun k G => if k = true then mb ds G else .ok (.d (.bool false)) G
@[simp] theorem and2K_ap (mb : EM) (ds : Sl) (k G) : and2K mb ds k G = if k = true then mb ds G else .ok (.d (.bool false)) G := (rfl)
def or2K (mb : EM) (ds : Sl) : Bool → Ms → ER DV := fun k G => if k = true then .ok (.d (.bool true)) G else mb ds G
@[simp] theorem or2K_ap (mb : EM) (ds : Sl) (k G) : or2K mb ds k G = if k = true then .ok (.d (.bool true)) G else mb ds G := (rfl)
def not2K : Bool → Ms → ER DV := fun k G => .ok (.d (.bool (!k))) G
@[simp] theorem not2K_ap (k G) : not2K k G = .ok (.d (.bool (!k))) G := (rfl)
def andEK (mb : EM) (ds : Sl) : DV → Ms → ER DV := fun v G => (ofO G (isB v)).bind (and2K mb ds)
@[simp] theorem andEK_ap (mb : EM) (ds : Sl) (v G) : andEK mb ds v G = (ofO G (isB v)).bind (and2K mb ds) := (rfl)
def orEK (mb : EM) (ds : Sl) : DV → Ms → ER DV := fun v G => (ofO G (isB v)).bind (or2K mb ds)
@[simp] theorem orEK_ap (mb : EM) (ds : Sl) (v G) : orEK mb ds v G = (ofO G (isB v)).bind (or2K mb ds) := (rfl)
def notEK : DV → Ms → ER DV := fun v G => (ofO G (isB v)).bind not2K
@[simp] theorem notEK_ap (v G) : notEK v G = (ofO G (isB v)).bind not2K := (rfl)
def ifEK (ma mb : EM) (ds : Sl) : Bool → Ms → ER DV := fun k G => if k = true then ma ds G else mb ds G
@[simp] theorem ifEK_ap (ma mb : EM) (ds : Sl) (k G) : ifEK ma mb ds k G = if k = true then ma ds G else mb ds G := (rfl)
def dropK (ds : Sl) : DV → Ms → SR := fun v G => .nx ds G
@[simp] theorem dropK_ap (ds : Sl) (v G) : dropK ds v G = .nx ds G := (rfl)
def retK : DV → Ms → SR := fun v G => .rt v G
@[simp] theorem retK_ap (v G) : retK v G = .rt v G := (rfl)
def ifSK (a b : SM) (ds : Sl) : Bool → Ms → SR := fun k G => if k = true then a ds G else b ds G
@[simp] theorem ifSK_ap (a b : SM) (ds : Sl) (k G) : ifSK a b ds k G = if k = true then a ds G else b ds G := (rfl)
def asgK (t : TM) (ds : Sl) : DV → Ms → SR := fun v G => oS (t v ds G)
@[simp] theorem asgK_ap (t : TM) (ds : Sl) (v G) : asgK t ds v G = oS (t v ds G) := (rfl)
def par2K (i j : Nat) (v : DV) (ds : Sl) : DV → Ms → SR := fun u G => .nx ((ds.set i (some v)).set j (some u)) G
@[simp] theorem par2K_ap (i j : Nat) (v : DV) (ds : Sl) (u G) : par2K i j v ds u G = .nx ((ds.set i (some v)).set j (some u)) G := (rfl)
def parK (i j : Nat) (mb : EM) (ds : Sl) : DV → Ms → SR := fun v G => eS (mb ds G) ds (par2K i j v ds)
@[simp] theorem parK_ap (i j : Nat) (mb : EM) (ds : Sl) (v G) : parK i j mb ds v G = eS (mb ds G) ds (par2K i j v ds) := (rfl)
def aug3K (i : Nat) (ds : Sl) : DV → Ms → SR := fun w G => .nx (ds.set i (some w)) G
@[simp] theorem aug3K_ap (i : Nat) (ds : Sl) (w G) : aug3K i ds w G = .nx (ds.set i (some w)) G := (rfl)
def aug2K (i : Nat) (f : OpF) (v : DV) (ds : Sl) : DV → Ms → SR := fun u G => eS (liftO (f v u G)) ds (aug3K i ds)
@[simp] theorem aug2K_ap (i : Nat) (f : OpF) (v : DV) (ds : Sl) (u G) : aug2K i f v ds u G = eS (liftO (f v u G)) ds (aug3K i ds) := (rfl)
def augK (i : Nat) (f : OpF) (ma : EM) (ds : Sl) : DV → Ms → SR := fun v G => eS (ma ds G) ds (aug2K i f v ds)
@[simp] theorem augK_ap (i : Nat) (f : OpF) (ma : EM) (ds : Sl) (v G) : augK i f ma ds v G = eS (ma ds G) ds (aug2K i f v ds) := (rfl)
def ia3K (f : SetF) (v o : DV) (ds : Sl) : DV → Ms → SR := fun i G => afterSet ds (f o i v G)
@[simp] theorem ia3K_ap (f : SetF) (v o : DV) (ds : Sl) (i G) : ia3K f v o ds i G = afterSet ds (f o i v G) := (rfl)
def ia2K (mi : EM) (f : SetF) (v : DV) (ds : Sl) : DV → Ms → SR := fun o G => eS (mi ds G) ds (ia3K f v o ds)
@[simp] theorem ia2K_ap (mi : EM) (f : SetF) (v : DV) (ds : Sl) (o G) : ia2K mi f v ds o G = eS (mi ds G) ds (ia3K f v o ds) := (rfl)
def iaK (mo mi : EM) (f : SetF) (ds : Sl) : DV → Ms → SR := fun v G => eS (mo ds G) ds (ia2K mi f v ds)
@[simp] theorem iaK_ap (mo mi : EM) (f : SetF) (ds : Sl) (v G) : iaK mo mi f ds v G = eS (mo ds G) ds (ia2K mi f v ds) := (rfl)
def iu5K (set : SetF) (o i : DV) (ds : Sl) : DV → Ms → SR := fun w G => afterSet ds (set o i w G)
@[simp] theorem iu5K_ap (set : SetF) (o i : DV) (ds : Sl) (w G) : iu5K set o i ds w G = afterSet ds (set o i w G) := (rfl)
def iu4K (f : OpF) (set : SetF) (o i v : DV) (ds : Sl) : DV → Ms → SR := fun u G => eS (liftO (f v u G)) ds (iu5K set o i ds)
@[simp] theorem iu4K_ap (f : OpF) (set : SetF) (o i v : DV) (ds : Sl) (u G) : iu4K f set o i v ds u G = eS (liftO (f v u G)) ds (iu5K set o i ds) := (rfl)
def iu3K (m : EM) (f : OpF) (set : SetF) (o i : DV) (ds : Sl) : DV → Ms → SR := fun v G => eS (m ds G) ds (iu4K f set o i v ds)
@[simp] theorem iu3K_ap (m : EM) (f : OpF) (set : SetF) (o i : DV) (ds : Sl) (v G) : iu3K m f set o i ds v G = eS (m ds G) ds (iu4K f set o i v ds) := (rfl)
def iu2K (get : OpF) (m : EM) (f : OpF) (set : SetF) (o : DV) (ds : Sl) : DV → Ms → SR := fun i G => eS (liftO (get o i G)) ds (iu3K m f set o i ds)
@[simp] theorem iu2K_ap (get : OpF) (m : EM) (f : OpF) (set : SetF) (o : DV) (ds : Sl) (i G) : iu2K get m f set o ds i G = eS (liftO (get o i G)) ds (iu3K m f set o i ds) := (rfl)
def iuK (mi : EM) (get : OpF) (m : EM) (f : OpF) (set : SetF) (ds : Sl) : DV → Ms → SR := fun o G => eS (mi ds G) ds (iu2K get m f set o ds)
@[simp] theorem iuK_ap (mi : EM) (get : OpF) (m : EM) (f : OpF) (set : SetF) (ds : Sl) (o G) : iuK mi get m f set ds o G = eS (mi ds G) ds (iu2K get m f set o ds) := (rfl)
noncomputable def forK (t : TM) (b : SM) (ds : Sl) : (List PyData × Src) → Ms → SR := fun p G => forN t b p.2 p.1 ds G
@[simp] theorem forK_ap (t : TM) (b : SM) (ds : Sl) (xs : List PyData) (s : Src) (G) : forK t b ds (xs, s) G = forN t b s xs ds G := (rfl)
def newK (fz : Bool) : List PyData → Ms → ER DV := fun acc G => newL fz acc G
@[simp] theorem newK_ap (fz : Bool) (acc G) : newK fz acc G = newL fz acc G := (rfl)
noncomputable def lcK (fz : Bool) (vs : List Nat) (t : TM) (c : BM) (e : EM) (ds : Sl) : (List PyData × Src) → Ms → ER DV := fun p G => (compN t c e p.2 (wipeD ds vs) p.1 [] G).bind (newK fz)
@[simp] theorem lcK_ap (fz : Bool) (vs : List Nat) (t : TM) (c : BM) (e : EM) (ds : Sl) (xs : List PyData) (s : Src) (G) : lcK fz vs t c e ds (xs, s) G = (compN t c e s (wipeD ds vs) xs [] G).bind (newK fz) := (rfl)
def sdK (fz : Bool) : List (List Int) → Ms → ER DV := fun ks G => newL fz ((ks.mergeSort leR).map rowT) G
@[simp] theorem sdK_ap (fz : Bool) (ks G) : sdK fz ks G = newL fz ((ks.mergeSort leR).map rowT) G := (rfl)
noncomputable def srtK (fz : Bool) (vs : List Nat) (t : TM) (e v : EM) (ds : Sl) : (List PyData × Src) → Ms → ER DV := fun p G => (dkN t e v p.2 (wipeD ds vs) p.1 [] G).bind (sdK fz)
@[simp] theorem srtK_ap (fz : Bool) (vs : List Nat) (t : TM) (e v : EM) (ds : Sl) (xs : List PyData) (s : Src) (G) : srtK fz vs t e v ds (xs, s) G = (dkN t e v s (wipeD ds vs) xs [] G).bind (sdK fz) := (rfl)
def the2K : Int → Ms → ER (Option Int) := fun i G => .ok (some i) G
@[simp] theorem the2K_ap (i G) : the2K i G = .ok (some i) G := (rfl)
def theK : DV → Ms → ER (Option Int) := fun v G => (ofO G (isI v)).bind the2K
@[simp] theorem theK_ap (v G) : theK v G = (ofO G (isI v)).bind the2K := (rfl)
def sl3K (fz : Bool) (v : DV) (l : Option Int) : Option Int → Ms → ER DV := fun h G => liftO (sliceF fz v l h G)
@[simp] theorem sl3K_ap (fz : Bool) (v : DV) (l : Option Int) (h G) : sl3K fz v l h G = liftO (sliceF fz v l h G) := (rfl)
def sl2K (fz : Bool) (mh : OM) (v : DV) (ds : Sl) : Option Int → Ms → ER DV := fun l G => (mh ds G).bind (sl3K fz v l)
@[simp] theorem sl2K_ap (fz : Bool) (mh : OM) (v : DV) (ds : Sl) (l G) : sl2K fz mh v ds l G = (mh ds G).bind (sl3K fz v l) := (rfl)
def slK (fz : Bool) (ml mh : OM) (ds : Sl) : DV → Ms → ER DV := fun v G => (ml ds G).bind (sl2K fz mh v ds)
@[simp] theorem slK_ap (fz : Bool) (ml mh : OM) (ds : Sl) (v G) : slK fz ml mh ds v G = (ml ds G).bind (sl2K fz mh v ds) := (rfl)
def me2K (f : MeF) (v : DV) : List DV → Ms → ER DV := fun vs G => liftO (f v vs G)
@[simp] theorem me2K_ap (f : MeF) (v : DV) (vs G) : me2K f v vs G = liftO (f v vs G) := (rfl)
def meK (f : MeF) (m : AM) (ds : Sl) : DV → Ms → ER DV := fun v G => if isL v G = true then (m ds G).bind (me2K f v) else .bad
@[simp] theorem meK_ap (f : MeF) (m : AM) (ds : Sl) (v G) : meK f m ds v G = if isL v G = true then (m ds G).bind (me2K f v) else .bad := (rfl)
def me0K (f : MeF) : DV → Ms → ER DV := fun v G => if isL v G = true then liftO (f v [] G) else .bad
@[simp] theorem me0K_ap (f : MeF) (v G) : me0K f v G = if isL v G = true then liftO (f v [] G) else .bad := (rfl)
def ch4K (f' : OpF) (u : DV) : DV → Ms → ER DV := fun z G => liftO (f' u z G)
@[simp] theorem ch4K_ap (f' : OpF) (u : DV) (z G) : ch4K f' u z G = liftO (f' u z G) := (rfl)
def ch3K (f' : OpF) (mc : EM) (u : DV) (ds : Sl) : Bool → Ms → ER DV := fun k G => if k = true then (mc ds G).bind (ch4K f' u) else .ok (.d (.bool false)) G
@[simp] theorem ch3K_ap (f' : OpF) (mc : EM) (u : DV) (ds : Sl) (k G) : ch3K f' mc u ds k G = if k = true then (mc ds G).bind (ch4K f' u) else .ok (.d (.bool false)) G := (rfl)
def ch2K (f' : OpF) (mc : EM) (u : DV) (ds : Sl) : DV → Ms → ER DV := fun k G => (ofO G (isB k)).bind (ch3K f' mc u ds)
@[simp] theorem ch2K_ap (f' : OpF) (mc : EM) (u : DV) (ds : Sl) (k G) : ch2K f' mc u ds k G = (ofO G (isB k)).bind (ch3K f' mc u ds) := (rfl)
def ch1K (f f' : OpF) (mc : EM) (v : DV) (ds : Sl) : DV → Ms → ER DV := fun u G => (liftO (f v u G)).bind (ch2K f' mc u ds)
@[simp] theorem ch1K_ap (f f' : OpF) (mc : EM) (v : DV) (ds : Sl) (u G) : ch1K f f' mc v ds u G = (liftO (f v u G)).bind (ch2K f' mc u ds) := (rfl)
def chK (f f' : OpF) (mb mc : EM) (ds : Sl) : DV → Ms → ER DV := fun v G => (mb ds G).bind (ch1K f f' mc v ds)
@[simp] theorem chK_ap (f f' : OpF) (mb mc : EM) (ds : Sl) (v G) : chK f f' mb mc ds v G = (mb ds G).bind (ch1K f f' mc v ds) := (rfl)
def st2K (xs : List PyData) : List DV → Ms → ER (List DV) := fun vs G => .ok (xs.map .d ++ vs) G
@[simp] theorem st2K_ap (xs : List PyData) (vs G) : st2K xs vs G = .ok (xs.map .d ++ vs) G := (rfl)
def stK2 (m : AM) (ds : Sl) (G : Ms) : List PyData → ER (List DV) := fun xs => (m ds G).bind (st2K xs)
@[simp] theorem stK2_ap (m : AM) (ds : Sl) (G : Ms) (xs) : stK2 m ds G xs = (m ds G).bind (st2K xs) := (rfl)
def stK (m : AM) (ds : Sl) : DV → Ms → ER (List DV) := fun v G => thenA (seqOf G v) (stK2 m ds G)
@[simp] theorem stK_ap (m : AM) (ds : Sl) (v G) : stK m ds v G = thenA (seqOf G v) (stK2 m ds G) := (rfl)
def raK (name : Str) (fs : List Str) (ds : Sl) : List DV → Ms → SR := fun vs G => exnOf name fs ds G (datas vs)
@[simp] theorem raK_ap (name : Str) (fs : List Str) (ds : Sl) (vs G) : raK name fs ds vs G = exnOf name fs ds G (datas vs) := (rfl)
/-! ### names -/
def getV (G : Ms) : Option (Option DV) → ER DV
  | some (some v) => .ok v G
  | _ => .bad
@[simp] theorem getV_some (G : Ms) (v : DV) : getV G (some (some v)) = .ok v G := (rfl)
@[simp] theorem varE_ap (i : Nat) (ds : Sl) (G : Ms) : varE i ds G = getV G ds[i]? := by
  unfold varE getV
  rfl
@[simp] theorem cE_ap (v : DV) (ds : Sl) (G : Ms) : cE v ds G = .ok v G := (rfl)
@[simp] theorem binE_ap (f : OpF) (ma mb : EM) (ds : Sl) (G : Ms) : binE f ma mb ds G = (ma ds G).bind (binK f mb ds) := (rfl)
@[simp] theorem unE_ap (f : UnF) (ma : EM) (ds : Sl) (G : Ms) : unE f ma ds G = (ma ds G).bind (liftK f) := (rfl)
@[simp] theorem nilA_ap (ds : Sl) (G : Ms) : nilA ds G = .ok [] G := (rfl)
@[simp] theorem consA_ap (ma : EM) (m : AM) (ds : Sl) (G : Ms) : consA ma m ds G = (ma ds G).bind (consK m ds) := (rfl)
@[simp] theorem callE_ap (f : CaF) (m : AM) (ds : Sl) (G : Ms) : callE f m ds G = (m ds G).bind (liftK f) := (rfl)
@[simp] theorem truB_ap (ma : EM) (ds : Sl) (G : Ms) : truB ma ds G = (ma ds G).bind truK := (rfl)
@[simp] theorem valB_ap (ma : EM) (ds : Sl) (G : Ms) : valB ma ds G = (ma ds G).bind valK := (rfl)
@[simp] theorem notB_ap (c : BM) (ds : Sl) (G : Ms) : notB c ds G = (c ds G).bind notBK := (rfl)
@[simp] theorem andB_ap (c d : BM) (ds : Sl) (G : Ms) : andB c d ds G = (c ds G).bind (andBK d ds) := (rfl)
@[simp] theorem orB_ap (c d : BM) (ds : Sl) (G : Ms) : orB c d ds G = (c ds G).bind (orBK d ds) := (rfl)
@[simp] theorem andE_ap (ma mb : EM) (ds : Sl) (G : Ms) : andE ma mb ds G = (ma ds G).bind (andEK mb ds) := (rfl)
@[simp] theorem orE_ap (ma mb : EM) (ds : Sl) (G : Ms) : orE ma mb ds G = (ma ds G).bind (orEK mb ds) := (rfl)
@[simp] theorem notE_ap (ma : EM) (ds : Sl) (G : Ms) : notE ma ds G = (ma ds G).bind notEK := (rfl)
@[simp] theorem ifE_ap (c : BM) (ma mb : EM) (ds : Sl) (G : Ms) : ifE c ma mb ds G = (c ds G).bind (ifEK ma mb ds) := (rfl)
@[simp] theorem skipS_ap (ds : Sl) (G : Ms) : skipS ds G = .nx ds G := (rfl)
@[simp] theorem breakS_ap (ds : Sl) (G : Ms) : breakS ds G = .bk ds G := (rfl)
@[simp] theorem contS_ap (ds : Sl) (G : Ms) : contS ds G = .ct ds G := (rfl)
@[simp] theorem seqS_ap (a b : SM) (ds : Sl) (G : Ms) : seqS a b ds G = (a ds G).seq b := by
  unfold seqS SR.seq
  cases a ds G <;> rfl
@[simp] theorem dropS_ap (m : EM) (ds : Sl) (G : Ms) : dropS m ds G = eS (m ds G) ds (dropK ds) := (rfl)
@[simp] theorem retS_ap (m : EM) (ds : Sl) (G : Ms) : retS m ds G = eS (m ds G) ds retK := (rfl)
@[simp] theorem retNS_ap (ds : Sl) (G : Ms) : retNS ds G = .rt (.d .none) G := (rfl)
@[simp] theorem ifS_ap (c : BM) (a b : SM) (ds : Sl) (G : Ms) : ifS c a b ds G = eS (c ds G) ds (ifSK a b ds) := (rfl)
@[simp] theorem asgS_ap (m : EM) (t : TM) (ds : Sl) (G : Ms) : asgS m t ds G = eS (m ds G) ds (asgK t ds) := (rfl)
@[simp] theorem nameT_ap (i : Nat) (v : DV) (ds : Sl) (G : Ms) : nameT i v ds G = some (ds.set i (some v), G) := (rfl)
@[simp] theorem nilT_ap (ds : Sl) (G : Ms) : nilT [] ds G = some (ds, G) := (rfl)
def andT (o : Option (Sl × Ms)) (r : Sl → Ms → Option (Sl × Ms)) : Option (Sl × Ms) := match o with
  | some p => r p.1 p.2
  | none => none
@[simp] theorem andT_some (ds : Sl) (G : Ms) (r : Sl → Ms → Option (Sl × Ms)) : andT (some (ds, G)) r = r ds G := (rfl)
@[simp] theorem consT_ap (t : TM) (r : TMs) (x : PyData) (xs : List PyData) (ds : Sl) (G : Ms) : consT t r (x :: xs) ds G = andT (t (.d x) ds G) (r xs) := by
  show ((t (.d x) ds G).bind fun p => r xs p.1 p.2) = andT (t (.d x) ds G) (r xs)
  cases t (.d x) ds G <;> rfl
@[simp] theorem tupT_ap (n : Nat) (ts : TMs) (xs : List PyData) (ds : Sl) (G : Ms) : tupT n ts (.d (.tuple xs)) ds G = if xs.length = n then ts xs ds G else none := (rfl)
@[simp] theorem parS_ap (i j : Nat) (ma mb : EM) (ds : Sl) (G : Ms) : parS i j ma mb ds G = eS (ma ds G) ds (parK i j mb ds) := (rfl)
@[simp] theorem augS_ap (i : Nat) (f : OpF) (ma : EM) (ds : Sl) (G : Ms) : augS i f ma ds G = eS (getV G ds[i]?) ds (augK i f ma ds) := by
  unfold augS getV
  cases ds[i]? with
  | none => rfl
  | some o => cases o <;> rfl
@[simp] theorem ixAsgS_ap (m mo mi : EM) (f : SetF) (ds : Sl) (G : Ms) : ixAsgS m mo mi f ds G = eS (m ds G) ds (iaK mo mi f ds) := by
  rfl
@[simp] theorem ixAugS_ap (mo mi : EM) (get : OpF) (m : EM) (f : OpF) (set : SetF) (ds : Sl) (G : Ms) : ixAugS mo mi get m f set ds G = eS (mo ds G) ds (iuK mi get m f set ds) := by
  rfl
@[simp] theorem forS_ap (im : IM) (t : TM) (b : SM) (ds : Sl) (G : Ms) : forS im t b ds G = eS (im ds G) ds (forK t b ds) := (rfl)
@[simp] theorem whileS_ap (fuel : Sl → Ms → Nat) (c : BM) (b : SM) (ds : Sl) (G : Ms) : whileS fuel c b ds G = whileN c b (fuel ds G) ds G := (rfl)
@[simp] theorem iterE_ap (f : DV → Ms → Option ((List PyData × Src) × Ms)) (ma : EM) (ds : Sl) (G : Ms) : iterE f ma ds G = (ma ds G).bind (liftK f) := (rfl)
theorem iterA_ap (f : List DV → Ms → Option ((List PyData × Src) × Ms)) (m : AM) (ds : Sl) (G : Ms) : iterA f m ds G = (m ds G).bind (liftK f) := (rfl)
@[simp] theorem lcE_ap (fz : Bool) (vs : List Nat) (im : IM) (t : TM) (c : BM) (e : EM) (ds : Sl) (G : Ms) : lcE fz vs im t c e ds G = (im ds G).bind (lcK fz vs t c e ds) := (rfl)
@[simp] theorem srtDctE_ap (fz : Bool) (vs : List Nat) (im : IM) (t : TM) (e v : EM) (ds : Sl) (G : Ms) : srtDctE fz vs im t e v ds G = (im ds G).bind (srtK fz vs t e v ds) := (rfl)
@[simp] theorem newL_true (xs : List PyData) (G : Ms) : newL true xs G = .ok (.d (.list xs)) G := (rfl)
@[simp] theorem newL_false (xs : List PyData) (G : Ms) : newL false xs G = .ok (.mr G.length) (G ++ [.lst xs]) := (rfl)
theorem defW_ap (cut : Nat → DV → Ms → ER DV) (ns : Nat) (b : SM) (vs : List DV) (G : Ms) : defW cut ns b vs G = exitM cut G.length (b (vs.map some ++ List.replicate (ns - vs.length) none) G) := (rfl)
@[simp] theorem exitM_rt (cut : Nat → DV → Ms → ER DV) (n : Nat) (v : DV) (G : Ms) : exitM cut n (.rt v G) = cut n v G := (rfl)
@[simp] theorem exitM_nx (cut : Nat → DV → Ms → ER DV) (n : Nat) (ds : Sl) (G : Ms) : exitM cut n (.nx ds G) = cut n (.d .none) G := (rfl)
@[simp] theorem exitM_exn (cut : Nat → DV → Ms → ER DV) (n : Nat) (x : XD) (ds : Sl) (G : Ms) : exitM cut n (.exn x ds G) = .exn x (G.take n) := (rfl)
@[simp] theorem cutM_d (n : Nat) (x : PyData) (G : Ms) : cutM n (.d x) G = .ok (.d x) (G.take n) := (rfl)
@[simp] theorem fnE_ap (f : FM) (m : AM) (ds : Sl) (G : Ms) : fnE f m ds G = (m ds G).bind f := (rfl)
@[simp] theorem noO_ap (ds : Sl) (G : Ms) : noO ds G = .ok none G := (rfl)
@[simp] theorem theO_ap (ma : EM) (ds : Sl) (G : Ms) : theO ma ds G = (ma ds G).bind theK := (rfl)
@[simp] theorem sliceE_ap (fz : Bool) (ma : EM) (ml mh : OM) (ds : Sl) (G : Ms) : sliceE fz ma ml mh ds G = (ma ds G).bind (slK fz ml mh ds) := (rfl)
@[simp] theorem methL_ap (f : MeF) (mo : EM) (m : AM) (ds : Sl) (G : Ms) : methL f mo m ds G = (mo ds G).bind (meK f m ds) := (rfl)
@[simp] theorem methL0_ap (f : MeF) (mo : EM) (ds : Sl) (G : Ms) : methL0 f mo ds G = (mo ds G).bind (me0K f) := (rfl)
@[simp] theorem chainE_ap (f f' : OpF) (ma mb mc : EM) (ds : Sl) (G : Ms) : chainE f f' ma mb mc ds G = (ma ds G).bind (chK f f' mb mc ds) := (rfl)
@[simp] theorem starA_ap (ma : EM) (m : AM) (ds : Sl) (G : Ms) : starA ma m ds G = (ma ds G).bind (stK m ds) := by
  rfl
@[simp] theorem callLE_ap (i : Nat) (fa : Addr) (f : FM) (m : AM) (ds : Sl) (G : Ms) (h : ds[i]? = some (some (.fn fa))) : callLE i fa f m ds G = (m ds G).bind f := by
  unfold callLE
  rw [h]
  simp only [if_true]
@[simp] theorem raiseS_ap (name : Str) (fs : List Str) (m : AM) (ds : Sl) (G : Ms) : raiseS name fs m ds G = eS (m ds G) ds (raK name fs ds) := by
  rfl
@[simp] theorem raise0S_ap (name : Str) (ds : Sl) (G : Ms) : raise0S name ds G = .exn ⟨name, []⟩ ds G := (rfl)
@[simp] theorem tryS_ap (sb : SM) (hs : List HM) (ds : Sl) (G : Ms) : tryS sb hs ds G = (sb ds G).catch (handM hs) := by
  unfold tryS SR.catch
  rfl
/-! ### loops -/
theorem forN_nil (t : TM) (b : SM) (s : Src) (ds : Sl) (G : Ms) (ok : s.ok G) : forN t b s [] ds G = .nx ds G := by
  unfold forN
  rw [if_pos ok]
theorem forN_cons (t : TM) (b : SM) (s : Src) (x : PyData) (r : List PyData) (ds : Sl) (G : Ms) (ok : s.ok G) {ds1 : Sl} {G1 : Ms} (ht : t (.d x) ds G = some (ds1, G1)) : forN t b s (x :: r) ds G = (b ds1 G1).turn (forN t b s r) := by
  rw [forN, if_pos ok, ht]
  unfold SR.turn
  rfl
@[simp] theorem forN_nilP (t : TM) (b : SM) (ds : Sl) (G : Ms) : forN t b .pure [] ds G = .nx ds G := forN_nil t b _ ds G True.intro
def whK (c : BM) (b : SM) (n : Nat) (ds : Sl) : Bool → Ms → SR := fun k G => if k = true then (b ds G).turn (whileN c b n) else .nx ds G
@[simp] theorem whK_ap (c : BM) (b : SM) (n : Nat) (ds : Sl) (k G) : whK c b n ds k G = if k = true then (b ds G).turn (whileN c b n) else .nx ds G := (rfl)
theorem whileN_succ (c : BM) (b : SM) (n : Nat) (ds : Sl) (G : Ms) : whileN c b (n + 1) ds G = eS (c ds G) ds (whK c b n ds) := by
  rw [whileN]
  rfl
/-- a comprehension whose tests and items leave the store -/
theorem compN_ok (t : TM) (c : BM) (e : EM) (s : Src) (dw : Sl) (G : Ms) (P : PyData → Bool) (f : PyData → PyData) : ∀ (l acc : List PyData), (∀ acc, s.ok (G ++ [.lst acc])) → acc.length + l.length ≤ sizeLine →
    (∀ x ∈ l, ∀ H, ∃ ds, t (.d x) dw H = some (ds, H) ∧ c ds H = .ok (P x) H ∧ (P x = true → e ds H = .ok (.d (f x)) H)) → compN t c e s dw l acc G = .ok (acc ++ (l.filter P).map f) G
  | [], acc, ok, _, _ => by
    unfold compN
    rw [if_pos (ok acc)]
    simp
  | x :: l, acc, ok, hz, h => by
    obtain ⟨ds, h1, h2, h3⟩ := h x (by simp) (G ++ [.lst acc])
    rw [compN, if_pos (ok acc), h1]
    simp only
    rw [h2]
    rw [List.length_cons] at hz
    cases hp : P x with
    | true =>
      rw [hp] at h3
      simp only
      rw [h3 rfl]
      simp only
      rw [if_pos (by omega), back_self]
      simp only
      rw [compN_ok t c e s dw G P f l (acc ++ [f x]) ok (by rw [List.length_append]; simp; omega) fun y hy => h y (by simp [hy])]
      rw [List.filter_cons, hp]
      simp
    | false =>
      simp only
      rw [back_self]
      simp only
      rw [compN_ok t c e s dw G P f l acc ok (by omega) fun y hy => h y (by simp [hy])]
      rw [List.filter_cons, hp]
      simp
theorem compN_map (t : TM) (e : EM) (s : Src) (dw : Sl) (G : Ms) (f : PyData → PyData) (l : List PyData) (ok : ∀ acc, s.ok (G ++ [.lst acc])) (hz : l.length ≤ sizeLine)
    (h : ∀ x ∈ l, ∀ H, ∃ ds, t (.d x) dw H = some (ds, H) ∧ e ds H = .ok (.d (f x)) H) : compN t yesB e s dw l [] G = .ok (l.map f) G := by
  rw [compN_ok t yesB e s dw G (fun _ => true) f l [] ok (by simpa using hz) fun x hx H => ?_]
  · rw [List.filter_eq_self.mpr fun _ _ => rfl, List.nil_append]
  · obtain ⟨ds, h1, h2⟩ := h x hx H
    exact ⟨ds, h1, rfl, fun _ => h2⟩
/-- a comprehension whose items change the store -/
theorem compN_rel (t : TM) (e : EM) (s : Src) (dw : Sl) (I : Nat → Ms → Prop) (R : PyData → Prop) : ∀ (l acc : List PyData) (i : Nat) (G : Ms), acc.length + l.length ≤ sizeLine → I i G → (∀ i G acc, I i G → s.ok (G ++ [.lst acc])) →
    (∀ x ∈ l, ∀ i G acc, I i G → ∃ ds y G', t (.d x) dw (G ++ [.lst acc]) = some (ds, G ++ [.lst acc]) ∧ e ds (G ++ [.lst acc]) = .ok (.d y) (G' ++ [.lst acc]) ∧ G'.length = G.length ∧ I (i + 1) G' ∧ R y) →
    ∃ ys G', compN t yesB e s dw l acc G = .ok (acc ++ ys) G' ∧ I (i + l.length) G' ∧ ys.length = l.length ∧ (∀ y ∈ ys, R y)
  | [], acc, i, G, _, hi, ok, _ => ⟨[], G, by unfold compN; rw [if_pos (ok i G acc hi), List.append_nil], hi, rfl, by simp⟩
  | x :: l, acc, i, G, hz, hi, ok, h => by
    obtain ⟨ds, y, G', h1, h2, h3, h4, h5⟩ := h x (by simp) i G acc hi
    rw [List.length_cons] at hz
    obtain ⟨ys, G2, k1, k2, k3, k4⟩ := compN_rel t e s dw I R l (acc ++ [y]) (i + 1) G' (by rw [List.length_append]; simp; omega) h4 ok fun z hz => h z (by simp [hz])
    refine ⟨y :: ys, G2, ?_, by rw [List.length_cons, show i + (l.length + 1) = i + 1 + l.length by omega]; exact k2, by simp [k3], fun z hz => ?_⟩
    · rw [compN, if_pos (ok i G acc hi), h1]
      simp only
      rw [h2]
      simp only
      rw [if_pos (by omega), ← h3, back_self]
      simp only
      rw [k1]
      simp
    · rcases List.mem_cons.mp hz with rfl | hz
      · exact h5
      · exact k4 z hz
/-! ### values -/
@[simp] theorem int0F_ap (f : Int → Int → Int) (i j : Int) (G : Ms) : int0F f (.d (.int i)) (.d (.int j)) G = some (.d (.int (f i j)), G) := (rfl)
@[simp] theorem cmpF_ap (f : Int → Int → Bool) (i j : Int) (G : Ms) : cmpF f (.d (.int i)) (.d (.int j)) G = some (.d (.bool (f i j)), G) := (rfl)
theorem intF_ap (C : Int → Int → Prop) (f : Int → Int → Int) (i j : Int) (G : Ms) (h : C i j) : intF C f (.d (.int i)) (.d (.int j)) G = some (.d (.int (f i j)), G) := by
  unfold intF
  simp only
  rw [if_pos h]
@[simp] theorem isB_bool (b : Bool) : isB (.d (.bool b)) = some b := (rfl)
@[simp] theorem isI_int (i : Int) : isI (.d (.int i)) = some i := (rfl)
@[simp] theorem truth_none (G : Ms) : truth (.d .none) G = some false := (rfl)
@[simp] theorem truth_bool (b : Bool) (G : Ms) : truth (.d (.bool b)) G = some b := (rfl)
@[simp] theorem truth_int (i : Int) (G : Ms) : truth (.d (.int i)) G = some (i != 0) := (rfl)
@[simp] theorem sliceF_tuple (fz : Bool) (xs : List PyData) (lo hi : Option Int) (G : Ms) : sliceF fz (.d (.tuple xs)) lo hi G = some (.d (.tuple (cutD xs lo hi)), G) := (rfl)
@[simp] theorem sliceF_scr (fz : Bool) (ns : List Int) (lo hi : Option Int) (G : Ms) : sliceF fz (.scr ns) lo hi G = newO fz ((cutD ns lo hi).map .int) G := (rfl)
@[simp] theorem sliceF_list (fz : Bool) (xs : List PyData) (lo hi : Option Int) (G : Ms) : sliceF fz (.d (.list xs)) lo hi G = newO fz (cutD xs lo hi) G := (rfl)
theorem lstOf_mr (n : Nat) (xs : List PyData) (G : Ms) (h : G[n]? = some (.lst xs)) : lstOf G (.mr n) = some xs := by
  show (match G[n]? with | some (.lst xs) => some xs | none => none) = some xs
  rw [h]
theorem seqOf_mr (n : Nat) (xs : List PyData) (G : Ms) (h : G[n]? = some (.lst xs)) : seqOf G (.mr n) = some xs := lstOf_mr n xs G h
theorem sliceF_mr (fz : Bool) (n : Nat) (xs : List PyData) (lo hi : Option Int) (G : Ms) (h : G[n]? = some (.lst xs)) : sliceF fz (.mr n) lo hi G = newO fz (cutD xs lo hi) G := by
  show (match lstOf G (.mr n) with | some xs => newO fz (cutD xs lo hi) G | none => none) = _
  rw [lstOf_mr n xs G h]
@[simp] theorem seqI_list (xs : List PyData) (G : Ms) : seqI (.d (.list xs)) G = some ((xs, .pure), G) := (rfl)
@[simp] theorem tupI_tuple (xs : List PyData) (G : Ms) : tupI (.d (.tuple xs)) G = some ((xs, .pure), G) := (rfl)
theorem range1F_ap (j : Int) (G : Ms) (h : -(2 ^ 62) ≤ j ∧ j < 2 ^ 62) : range1F [.d (.int j)] G = some ((rangeD 0 j.toNat, .pure), G) := by
  unfold range1F
  simp only
  rw [if_pos h]
@[simp] theorem ofBools_ap (f : List Bool → Bool) (bs : List Bool) (G : Ms) : ofBools f [.d (.list (bs.map .bool))] G = some (.d (.bool (f bs)), G) := by
  show (match (some (bs.map PyData.bool)).bind boolsD with | some bs => some (DV.d (.bool (f bs)), G) | none => none) = _
  simp
@[simp] theorem addF_ap (fz : Bool) (v u G) : addF fz v u G = (match v, u with
  | .d (.int i), .d (.int j) => some (.d (.int (i + j)), G)
  | .d (.str x), .d (.str y) => if x.length + y.length ≤ sizeLine then some (.d (.str (x ++ y)), G) else none
  | .d (.tuple xs), .d (.tuple ys) => if xs.length + ys.length ≤ sizeLine then some (.d (.tuple (xs ++ ys)), G) else none
  | v, u => match lstOf G v, lstOf G u with
    | some xs, some ys => if xs.length + ys.length ≤ sizeLine then newO fz (xs ++ ys) G else none
    | _, _ => none) := (rfl)
theorem eqF_ap (neg : Bool) (v u G) : eqF neg v u G = (match datOf G v, datOf G u with
  | some x, some y => if x.plain = true ∧ y.plain = true ∧ min x.depth y.depth < 200 then some (.d (.bool (if neg = true then !PyData.eqv x y else PyData.eqv x y)), G) else none
  | _, _ => none) := (rfl)
@[simp] theorem isNF_ap (neg : Bool) (v u G) : isNF neg v u G = (match u with
  | .d .none => match v with
    | .d .none => some (.d (.bool (!neg)), G)
    | .fn _ => none
    | .scr _ => none
    | _ => some (.d (.bool neg), G)
  | _ => none) := (rfl)
@[simp] theorem inF_ap (neg : Bool) (v u G) : inF neg v u G = (match v, seqOf G u with
  | .d x, some ys => if x.plain = true ∧ PyData.plainAll ys = true ∧ PyData.depthAll ys < 200 then some (.d (.bool (if neg = true then !ys.any (fun y => PyData.eqv y x) else ys.any (fun y => PyData.eqv y x))), G) else none
  | _, _ => none) := (rfl)
@[simp] theorem negF_ap (v G) : negF  v G = (match v with
  | .d (.int i) => some (.d (.int (-i)), G)
  | _ => none) := (rfl)
theorem ixF_ap (v u G) : ixF  v u G = (match v, u with
  | .d (.str z), .d (.int i) => if z.length ≤ sizeLine then (atI z.cps.toList i).map fun c => (.d (.str ⟨#[c]⟩), G) else none
  | v, .d (.int i) => match seqOf G v with
    | some xs => (atI xs i).map fun x => (.d x, G)
    | none => none
  | _, _ => none) := (rfl)
@[simp] theorem tupF_ap (vs G) : tupF  vs G = (match datas vs with
  | some xs => if xs.length ≤ sizeLine then some (.d (.tuple xs), G) else none
  | none => none) := (rfl)
@[simp] theorem listF_ap (fz : Bool) (vs G) : listF fz vs G = (match datas vs with
  | some xs => if xs.length ≤ sizeLine then newO fz xs G else none
  | none => none) := (rfl)
theorem lenF_ap (vs G) : lenF  vs G = (match vs with
  | [.d (.str z)] => if z.length ≤ sizeLine then some (.d (.int z.length), G) else none
  | [v] => match seqOf G v with
    | some xs => some (.d (.int xs.length), G)
    | none => none
  | _ => none) := (rfl)
@[simp] theorem absF_ap (vs G) : absF  vs G = (match vs with
  | [.d (.int i)] => some (.d (.int (if i < 0 then -i else i)), G)
  | _ => none) := (rfl)
@[simp] theorem intF1_ap (vs G) : intF1  vs G = (match vs with
  | [.d (.int i)] => some (.d (.int i), G)
  | [.d (.bool b)] => some (.d (.int (if b then 1 else 0)), G)
  | _ => none) := (rfl)
@[simp] theorem gcdF_ap (vs G) : gcdF  vs G = (match vs with
  | [.d (.int i), .d (.int j)] => some (.d (.int ((Nat.gcd i.natAbs j.natAbs : Nat) : Int)), G)
  | _ => none) := (rfl)
@[simp] theorem max2F_ap (vs G) : max2F  vs G = (match vs with
  | [.d (.int i), .d (.int j)] => some (.d (.int (if j > i then j else i)), G)
  | _ => none) := (rfl)
@[simp] theorem min2F_ap (vs G) : min2F  vs G = (match vs with
  | [.d (.int i), .d (.int j)] => some (.d (.int (if j < i then j else i)), G)
  | _ => none) := (rfl)
theorem tupleF_ap (vs G) : tupleF  vs G = (match vs with
  | [v] => match seqOf G v with
    | some xs => some (.d (.tuple xs), G)
    | none => none
  | _ => none) := (rfl)
theorem listOfF_ap (fz : Bool) (vs G) : listOfF fz vs G = (match vs with
  | [v] => match seqOf G v with
    | some xs => newO fz xs G
    | none => none
  | _ => none) := (rfl)
theorem isiF_ap (c : String) (v G) : isiF c v G = (match tyOf G v with
  | some t => some (.d (.bool (isSub t c)), G)
  | none => none) := (rfl)
theorem appendF_ap (v vs G) : appendF  v vs G = (match v, vs with
  | .mr n, [.d x] => match G[n]? with
    | some (.lst xs) => if xs.length < sizeLine then some (.d .none, G.set n (.lst (xs ++ [x]))) else none
    | none => none
  | _, _ => none) := (rfl)
theorem popF_ap (v vs G) : popF  v vs G = (match v, vs with
  | .mr n, [] => match G[n]? with
    | some (.lst xs) => match xs[xs.length - 1]? with
      | some y => some (.d y, G.set n (.lst xs.dropLast))
      | none => none
    | none => none
  | _, _ => none) := (rfl)
theorem extendF_ap (v vs G) : extendF  v vs G = (match v, vs with
  | .mr n, [u] => match G[n]?, lstOf G u with
    | some (.lst xs), some ys => if xs.length + ys.length ≤ sizeLine then some (.d .none, G.set n (.lst (xs ++ ys))) else none
    | _, _ => none
  | _, _ => none) := (rfl)
theorem insertF_ap (v vs G) : insertF  v vs G = (match v, vs with
  | .mr n, [.d (.int i), .d x] => match G[n]? with
    | some (.lst xs) => if xs.length < sizeLine ∧ 0 ≤ i ∧ i < 2 ^ 63 then some (.d .none, G.set n (.lst (xs.take i.toNat ++ [x] ++ xs.drop i.toNat))) else none
    | none => none
  | _, _ => none) := (rfl)
theorem setF_ap (o i v G) : setF  o i v G = (match o, i, v with
  | .mr n, .d (.int k), .d x => match G[n]? with
    | some (.lst xs) => match ixN xs.length k with
      | some j => some (G.set n (.lst (xs.set j x)))
      | none => none
    | none => none
  | _, _, _ => none) := (rfl)
theorem getF_ap (v u G) : getF  v u G = (match v, u with
  | .mr n, .d (.int i) => match G[n]? with
    | some (.lst xs) => (atI xs i).map fun x => (.d x, G)
    | none => none
  | _, _ => none) := (rfl)
theorem revF_ap (fz : Bool) (v G) : revF fz v G = (match lstOf G v with
  | some xs => newO fz xs.reverse G
  | none => none) := (rfl)
theorem srtSetF_ap (fz : Bool) (v G) : srtSetF fz v G = (match (seqOf G v).bind rowsD with
  | some ks => if ks.length < 64 then newO fz ((srtRows ks).map rowT) G else none
  | none => none) := (rfl)
@[simp] theorem reprF_ap (vs G) : reprF  vs G = (match vs with
  | [v] => match datOf G v with
    | some x => if x.plain = true ∧ x.showable = true ∧ x.depth < 100 ∧ x.shown.length ≤ sizeLine then some (.d (.str x.shown), G) else none
    | none => none
  | _ => none) := (rfl)
@[simp] theorem revTF_ap (v G) : revTF  v G = (match v with
  | .d (.tuple xs) => some (.d (.tuple xs.reverse), G)
  | _ => none) := (rfl)
@[simp] theorem lstT_ap (n : Nat) (ts : TMs) (v ds G) : lstT n ts v ds G = (match lstOf G v with
  | some xs => if xs.length = n then ts xs ds G else none
  | none => none) := (rfl)
@[simp] theorem eqF_int (i j : Int) (G : Ms) : eqF false (.d (.int i)) (.d (.int j)) G = some (.d (.bool (decide (i = j))), G) := by
  rw [eqF_ap]
  simp [PyData.plain, PyData.depth, PyData.eqv]
  by_cases h : i = j <;> simp [h]
@[simp] theorem neF_int (i j : Int) (G : Ms) : eqF true (.d (.int i)) (.d (.int j)) G = some (.d (.bool (!decide (i = j))), G) := by
  rw [eqF_ap]
  simp [PyData.plain, PyData.depth, PyData.eqv]
  by_cases h : i = j <;> simp [h]
theorem eqF_d (neg : Bool) (x y : PyData) (G : Ms) (h1 : x.plain = true) (h2 : y.plain = true) (h3 : min x.depth y.depth < 200) : eqF neg (.d x) (.d y) G = some (.d (.bool (if neg = true then !PyData.eqv x y else PyData.eqv x y)), G) := by
  rw [eqF_ap]
  simp only [datOf_d]
  rw [if_pos ⟨h1, h2, h3⟩]
mutual
theorem eqv_refl : ∀ x : PyData, x.plain = true → PyData.eqv x x = true
  | .none, _ => rfl
  | .bool b, _ => by simp [PyData.eqv]
  | .int i, _ => by simp [PyData.eqv]
  | .str z, _ => by simp [PyData.eqv]
  | .list xs, h => by
    rw [PyData.eqv]
    exact eqvAll_refl xs (by simpa [PyData.plain] using h)
  | .tuple xs, h => by
    rw [PyData.eqv]
    exact eqvAll_refl xs (by simpa [PyData.plain] using h)
  | .dict _, h => by simp [PyData.plain] at h
theorem eqvAll_refl : ∀ xs : List PyData, PyData.plainAll xs = true → PyData.eqvAll xs xs = true
  | [], _ => rfl
  | x :: xs, h => by
    simp only [PyData.plainAll, Bool.and_eq_true] at h
    rw [PyData.eqvAll, eqv_refl x h.1, eqvAll_refl xs h.2]
    rfl
end
theorem log2_lt64 {n : Nat} (h : n ≤ 1000000000000000000) : n.log2 < 64 := by
  by_cases z : n = 0
  · subst z
    decide
  · exact (Nat.log2_lt z).mpr (by omega)
theorem cmulW {i j : Int} (hi : i.natAbs ≤ 1000000000000000000) (hj : j.natAbs ≤ 1000000000000000000) : CMulW i j := by
  unfold CMulW
  have := log2_lt64 hi
  have := log2_lt64 hj
  omega
theorem mulF_int (i j : Int) (G : Ms) (hi : i.natAbs ≤ 1000000000000000000) (hj : j.natAbs ≤ 1000000000000000000) : mulF (.d (.int i)) (.d (.int j)) G = some (.d (.int (i * j)), G) := intF_ap _ _ _ _ _ (cmulW hi hj)
theorem modF_int (i j : Int) (G : Ms) (hj : j ≠ 0) : modF (.d (.int i)) (.d (.int j)) G = some (.d (.int (i.fmod j)), G) := intF_ap _ _ _ _ _ hj
theorem fdivF_int (i j : Int) (G : Ms) (hj : j ≠ 0) (hs : j.natAbs ≤ 1000000000000000000) : fdivF (.d (.int i)) (.d (.int j)) G = some (.d (.int (i.fdiv j)), G) := intF_ap _ _ _ _ _ ⟨hj, by have := log2_lt64 hs; omega⟩
theorem powF_int (i j : Int) (G : Ms) (h : CPow i j) : powF (.d (.int i)) (.d (.int j)) G = some (.d (.int (i ^ j.toNat)), G) := intF_ap _ _ _ _ _ h
theorem atI_nat {α : Type} (xs : List α) (i : Nat) : atI xs (i : Int) = xs[i]? := by
  unfold atI ixN
  rw [if_pos (by omega)]
  by_cases h : i < xs.length
  · rw [if_pos (by omega)]
    simp
  · rw [if_neg (by omega), List.getElem?_eq_none (by omega)]
    rfl
@[simp] theorem atI_0 {α : Type} (x : α) (r : List α) : atI (x :: r) 0 = some x := atI_nat (x :: r) 0
@[simp] theorem atI_1 {α : Type} (x y : α) (r : List α) : atI (x :: y :: r) 1 = some y := atI_nat (x :: y :: r) 1
@[simp] theorem atI_2 {α : Type} (x y z : α) (r : List α) : atI (x :: y :: z :: r) 2 = some z := atI_nat (x :: y :: z :: r) 2
@[simp] theorem atI_3 {α : Type} (x y z u : α) (r : List α) : atI (x :: y :: z :: u :: r) 3 = some u := atI_nat (x :: y :: z :: u :: r) 3
theorem atI_back {α : Type} (xs : List α) (k : Nat) (h1 : 1 ≤ k) (h : k ≤ xs.length) : atI xs (-(k : Int)) = xs[xs.length - k]? := by
  unfold atI ixN
  rw [if_neg (by omega), if_pos (by omega)]
  have e : (-(k : Int) + (xs.length : Int)).toNat = xs.length - k := by omega
  rw [e]
  rfl
theorem atI_m1 {α : Type} (l : List α) (x : α) : atI (l ++ [x]) (-1) = some x := by
  have := atI_back (l ++ [x]) 1 (Nat.le_refl _) (by simp)
  rw [show (-1 : Int) = -((1 : Nat) : Int) from rfl, this]
  simp
theorem atI_m2 {α : Type} (l : List α) (x y : α) : atI (l ++ [x, y]) (-2) = some x := by
  have := atI_back (l ++ [x, y]) 2 (by omega) (by simp)
  rw [show (-2 : Int) = -((2 : Nat) : Int) from rfl, this]
  simp
@[simp] theorem isL_list (xs : List PyData) (G : Ms) : isL (.d (.list xs)) G = true := (rfl)
theorem isL_mr (n : Nat) (G : Ms) (o : MO) (h : G[n]? = some o) : isL (.mr n) G = true := by
  show (G[n]?).isSome = true
  rw [h]
  rfl
theorem ixF_mr (n : Nat) (i : Int) (xs : List PyData) (G : Ms) (h : G[n]? = some (.lst xs)) : ixF (.mr n) (.d (.int i)) G = (atI xs i).map fun x => (.d x, G) := by
  show (match seqOf G (.mr n) with | some xs => (atI xs i).map fun x => (DV.d x, G) | none => none) = _
  rw [seqOf_mr n xs G h]
theorem lenF_mr (n : Nat) (xs : List PyData) (G : Ms) (h : G[n]? = some (.lst xs)) : lenF [.mr n] G = some (.d (.int xs.length), G) := by
  show (match seqOf G (.mr n) with | some xs => some (DV.d (.int xs.length), G) | none => none) = _
  rw [seqOf_mr n xs G h]
theorem appendF_mr (n : Nat) (x : PyData) (xs : List PyData) (G : Ms) (h : G[n]? = some (.lst xs)) (hz : xs.length < sizeLine) : appendF (.mr n) [.d x] G = some (.d .none, G.set n (.lst (xs ++ [x]))) := by
  show (match G[n]? with | some (.lst xs) => if xs.length < sizeLine then some (DV.d .none, G.set n (.lst (xs ++ [x]))) else none | none => none) = _
  rw [h]
  simp only
  rw [if_pos hz]
theorem popF_mr (n : Nat) (x : PyData) (xs : List PyData) (G : Ms) (h : G[n]? = some (.lst (xs ++ [x]))) : popF (.mr n) [] G = some (.d x, G.set n (.lst xs)) := by
  show (match G[n]? with | some (.lst xs) => (match xs[xs.length - 1]? with | some y => some (DV.d y, G.set n (.lst xs.dropLast)) | none => none) | none => none) = _
  rw [h]
  simp
theorem setF_mr (n : Nat) (i : Nat) (x : PyData) (xs : List PyData) (G : Ms) (h : G[n]? = some (.lst xs)) (h1 : i < xs.length) : setF (.mr n) (.d (.int (i : Int))) (.d x) G = some (G.set n (.lst (xs.set i x))) := by
  show (match G[n]? with | some (.lst xs) => (match ixN xs.length (i : Int) with | some j => some (G.set n (.lst (xs.set j x))) | none => none) | none => none) = _
  rw [h]
  simp only
  have e : ixN xs.length (i : Int) = some i := by
    unfold ixN
    rw [if_pos (by omega), if_pos (by omega)]
    rfl
  rw [e]
theorem getF_mr (n : Nat) (i : Int) (xs : List PyData) (G : Ms) (h : G[n]? = some (.lst xs)) : getF (.mr n) (.d (.int i)) G = (atI xs i).map fun x => (.d x, G) := by
  show (match G[n]? with | some (.lst xs) => (atI xs i).map fun x => (DV.d x, G) | none => none) = _
  rw [h]
@[simp] theorem ofBools_lam {α : Type} (f : List Bool → Bool) (g : α → Bool) (xs : List α) (G : Ms) : ofBools f [.d (.list (xs.map fun x => .bool (g x)))] G = some (.d (.bool (f (xs.map g))), G) := by
  have e : (xs.map fun x => PyData.bool (g x)) = (xs.map g).map .bool := by simp
  rw [e, ofBools_ap]
@[simp] theorem ofBools_comp {α : Type} (f : List Bool → Bool) (g : α → Bool) (xs : List α) (G : Ms) : ofBools f [.d (.list (xs.map (PyData.bool ∘ g)))] G = some (.d (.bool (f (xs.map g))), G) := ofBools_lam f g xs G
@[simp] theorem lenF_list (xs : List PyData) (G : Ms) : lenF [.d (.list xs)] G = some (.d (.int xs.length), G) := (rfl)
@[simp] theorem lenF_tuple (xs : List PyData) (G : Ms) : lenF [.d (.tuple xs)] G = some (.d (.int xs.length), G) := (rfl)
@[simp] theorem lenF_str (z : Str) (G : Ms) : lenF [.d (.str z)] G = if z.length ≤ sizeLine then some (.d (.int z.length), G) else none := (rfl)
@[simp] theorem ixF_list (xs : List PyData) (i : Int) (G : Ms) : ixF (.d (.list xs)) (.d (.int i)) G = (atI xs i).map fun x => (.d x, G) := (rfl)
@[simp] theorem ixF_tuple (xs : List PyData) (i : Int) (G : Ms) : ixF (.d (.tuple xs)) (.d (.int i)) G = (atI xs i).map fun x => (.d x, G) := (rfl)
@[simp] theorem tupleF_list (xs : List PyData) (G : Ms) : tupleF [.d (.list xs)] G = some (.d (.tuple xs), G) := (rfl)
@[simp] theorem tupleF_tuple (xs : List PyData) (G : Ms) : tupleF [.d (.tuple xs)] G = some (.d (.tuple xs), G) := (rfl)
@[simp] theorem listOfF_list (fz : Bool) (xs : List PyData) (G : Ms) : listOfF fz [.d (.list xs)] G = newO fz xs G := (rfl)
@[simp] theorem listOfF_tuple (fz : Bool) (xs : List PyData) (G : Ms) : listOfF fz [.d (.tuple xs)] G = newO fz xs G := (rfl)
@[simp] theorem revF_list (fz : Bool) (xs : List PyData) (G : Ms) : revF fz (.d (.list xs)) G = newO fz xs.reverse G := (rfl)
theorem tupleF_mr (n : Nat) (xs : List PyData) (G : Ms) (h : G[n]? = some (.lst xs)) : tupleF [.mr n] G = some (.d (.tuple xs), G) := by
  show (match seqOf G (.mr n) with | some xs => some (DV.d (.tuple xs), G) | none => none) = _
  rw [seqOf_mr n xs G h]
@[simp] theorem isiF_d (c : String) (x : PyData) (G : Ms) : isiF c (.d x) G = match tyOf G (.d x) with
  | some t => some (.d (.bool (isSub t c)), G)
  | none => none := (rfl)
@[simp] theorem atI_m1b {α : Type} (l : List α) (x y : α) : atI (l ++ [x, y]) (-1) = some y := by
  rw [show l ++ [x, y] = (l ++ [x]) ++ [y] by simp]
  exact atI_m1 _ _
@[simp] theorem atI_m2b {α : Type} (l : List α) (x y : α) : atI (l ++ [x, y]) (-2) = some x := atI_m2 l x y
theorem set_same {α : Type} {l : List α} {n : Nat} {x : α} (h : l[n]? = some x) : l.set n x = l := by
  apply List.ext_getElem?
  intro i
  by_cases e : n = i
  · subst e
    rw [List.getElem?_set_self (List.getElem?_eq_some_iff.mp h).1, h]
  · rw [List.getElem?_set_ne e]
theorem get_set {α : Type} {l : List α} {n : Nat} {x y : α} (h : l[n]? = some x) : (l.set n y)[n]? = some y := List.getElem?_set_self (List.getElem?_eq_some_iff.mp h).1
theorem forN_consP (t : TM) (b : SM) (x : PyData) (r : List PyData) (ds : Sl) (G : Ms) {ds1 : Sl} {G1 : Ms} (ht : t (.d x) ds G = some (ds1, G1)) : forN t b .pure (x :: r) ds G = (b ds1 G1).turn (forN t b .pure r) := forN_cons t b .pure x r ds G True.intro ht
theorem iterA_ok {f : List DV → Ms → Option ((List PyData × Src) × Ms)} {m : AM} {ds : Sl} {G G1 G2 : Ms} {vs : List DV} {p : List PyData × Src} (h1 : m ds G = .ok vs G1) (h2 : f vs G1 = some (p, G2)) : iterA f m ds G = .ok p G2 := by
  rw [iterA_ap, h1, ER.bind_ok, liftK_ap, h2, liftO_some]
theorem range1_int (i : Int) (n : Nat) (G : Ms) (h : i = (n : Int)) (hn : n ≤ 1000000) : range1F [.d (.int i)] G = some ((rangeD 0 n, .pure), G) := by
  rw [range1F_ap i G ⟨by omega, by omega⟩, h, Int.toNat_natCast]
theorem iter_range1 {m : AM} {ds : Sl} {G G1 : Ms} {i : Int} (n : Nat) (h1 : m ds G = .ok [.d (.int i)] G1) (h : i = (n : Int)) (hn : n ≤ 1000000) : iterA range1F m ds G = .ok (rangeD 0 n, .pure) G1 := iterA_ok h1 (range1_int i n G1 h hn)
end DL
/-! MHa: hulls in the plane of whole numbers: going round, and the two chains. No program here. -/
namespace HullM
abbrev Pt := Int × Int
def turn (a b c : Pt) : Int := (b.1 - a.1) * (c.2 - b.2) - (b.2 - a.2) * (c.1 - b.1)
def lt (a b : Pt) : Prop := a.1 < b.1 ∨ (a.1 = b.1 ∧ a.2 < b.2)
def le (a b : Pt) : Prop := a = b ∨ lt a b
instance (a b : Pt) : Decidable (lt a b) := by unfold lt; infer_instance
instance (a b : Pt) : Decidable (le a b) := by unfold le; infer_instance
theorem lt_irrefl (a : Pt) : ¬ lt a a := by unfold lt; omega
theorem lt_trans {a b c : Pt} (h : lt a b) (k : lt b c) : lt a c := by unfold lt at *; omega
theorem lt_asymm {a b : Pt} (h : lt a b) (k : lt b a) : False := lt_irrefl a (lt_trans h k)
theorem le_refl (a : Pt) : le a a := .inl rfl
theorem le_trans {a b c : Pt} (h : le a b) (k : le b c) : le a c := by
  rcases h with rfl | h
  · exact k
  · rcases k with rfl | k
    · exact .inr h
    · exact .inr (lt_trans h k)
theorem lt_of_le_lt {a b c : Pt} (h : le a b) (k : lt b c) : lt a c := by
  rcases h with rfl | h
  · exact k
  · exact lt_trans h k
theorem lt_of_lt_le {a b c : Pt} (h : lt a b) (k : le b c) : lt a c := by
  rcases k with rfl | k
  · exact h
  · exact lt_trans h k
theorem lt_tri (a b : Pt) : lt a b ∨ a = b ∨ lt b a := by
  obtain ⟨x, y⟩ := a
  obtain ⟨z, w⟩ := b
  unfold lt
  simp only [Prod.mk.injEq]
  omega
theorem not_lt_of_le {a b : Pt} (h : le a b) (k : lt b a) : False := lt_irrefl _ (lt_of_le_lt h k)

/-! ### vectors of one half plane -/
def cr (ax ay bx by' : Int) : Int := ax * by' - ay * bx
def pos (x y : Int) : Prop := 0 < x ∨ (x = 0 ∧ 0 < y)
theorem cr_id (ax ay bx by' cx cy : Int) : bx * cr ax ay cx cy = ax * cr bx by' cx cy + cx * cr ax ay bx by' := by
  unfold cr
  grind
theorem cr_trans {ax ay bx by' cx cy : Int} (pa : pos ax ay) (pb : pos bx by') (pc : pos cx cy) (h : 0 ≤ cr ax ay bx by') (k : 0 ≤ cr bx by' cx cy) : 0 ≤ cr ax ay cx cy ∧ (0 < cr ax ay bx by' ∨ 0 < cr bx by' cx cy → 0 < cr ax ay cx cy) := by
  have ax0 : 0 ≤ ax := by unfold pos at pa; omega
  have cx0 : 0 ≤ cx := by unfold pos at pc; omega
  rcases pb with pb | ⟨rfl, pb⟩
  · -- bx > 0
    have apos : 0 < ax := by
      rcases pa with pa | ⟨rfl, pa⟩
      · exact pa
      · exfalso
        unfold cr at h
        have := Int.mul_pos pa pb
        omega
    have e := cr_id ax ay bx by' cx cy
    have m1 := Int.mul_nonneg ax0 k
    have m2 := Int.mul_nonneg cx0 h
    have ge : 0 ≤ cr ax ay cx cy := by
      refine Classical.byContradiction fun z => ?_
      have := Int.mul_neg_of_pos_of_neg pb (by omega : cr ax ay cx cy < 0)
      omega
    refine ⟨ge, fun st => ?_⟩
    have nz : cr ax ay cx cy ≠ 0 := by
      intro z
      rw [z] at e
      simp only [Int.mul_zero] at e
      rcases st with st | st
      · rcases pc with pc | ⟨rfl, pc⟩
        · have := Int.mul_pos pc st
          omega
        · unfold cr at z
          have := Int.mul_pos apos pc
          omega
      · have := Int.mul_pos apos st
        omega
    omega
  · -- bx = 0
    unfold cr at *
    simp only [Int.mul_zero, Int.zero_mul, Int.sub_zero, Int.zero_sub] at *
    have c0 : cx = 0 := by
      refine Classical.byContradiction fun z => ?_
      have := Int.mul_pos pb (by omega : 0 < cx)
      omega
    subst c0
    have cy0 : 0 < cy := by unfold pos at pc; omega
    simp only [Int.mul_zero, Int.sub_zero, Int.neg_zero] at *
    refine ⟨Int.mul_nonneg ax0 (by omega), fun st => ?_⟩
    rcases st with st | st
    · have : ax ≠ 0 := by
        intro z
        rw [z] at st
        simp at st
      exact Int.mul_pos (by omega) cy0
    · omega
theorem turn_cr (a b c : Pt) : turn a b c = cr (b.1 - a.1) (b.2 - a.2) (c.1 - b.1) (c.2 - b.2) := rfl
theorem turn_cr2 (a b c : Pt) : turn a b c = cr (b.1 - a.1) (b.2 - a.2) (c.1 - a.1) (c.2 - a.2) := by
  unfold turn cr
  grind
theorem pos_of {a b : Pt} (h : lt a b) : pos (b.1 - a.1) (b.2 - a.2) := by
  unfold pos lt at *
  omega
theorem turn_rot (a b c : Pt) : turn a b c = turn b c a := by
  unfold turn
  grind
theorem turn_swap (a b c : Pt) : turn a c b = - turn a b c := by
  unfold turn
  grind
theorem turn_self (a b : Pt) : turn a b b = 0 := by
  unfold turn
  grind
theorem turn_self2 (a b : Pt) : turn a b a = 0 := by
  unfold turn
  grind
theorem cr_neg (a b c d : Int) : cr (-a) (-b) c d = - cr a b c d := by
  unfold cr
  grind
theorem cr_swap (a b c d : Int) : cr c d a b = - cr a b c d := by
  unfold cr
  grind
/-- from a, all ahead: order by turning is transitive -/
theorem turn_trans {a b c d : Pt} (hb : lt a b) (hc : lt a c) (hd : lt a d) (h : 0 ≤ turn a b c) (k : 0 ≤ turn a c d) : 0 ≤ turn a b d ∧ (0 < turn a b c ∨ 0 < turn a c d → 0 < turn a b d) := by
  rw [turn_cr2 a b c] at h
  rw [turn_cr2 a c d] at k
  rw [turn_cr2 a b d, turn_cr2 a b c, turn_cr2 a c d]
  exact cr_trans (pos_of hb) (pos_of hc) (pos_of hd) h k
/-- from a, all behind -/
theorem turn_trans' {a b c d : Pt} (hb : lt b a) (hc : lt c a) (hd : lt d a) (h : 0 ≤ turn a b c) (k : 0 ≤ turn a c d) : 0 ≤ turn a b d ∧ (0 < turn a b c ∨ 0 < turn a c d → 0 < turn a b d) := by
  have e : ∀ x y : Pt, turn a x y = cr (a.1 - x.1) (a.2 - x.2) (a.1 - y.1) (a.2 - y.2) := fun x y => by
    unfold turn cr
    grind
  rw [e b c] at h
  rw [e c d] at k
  rw [e b d, e b c, e c d]
  exact cr_trans (pos_of hb) (pos_of hc) (pos_of hd) h k
/-- a < b < c: b to c turns as a to b turns -/
theorem turn_ext {a b c d : Pt} (hab : lt a b) (hbc : lt b c) (hbd : lt b d) (h : 0 < turn a b c) (k : 0 < turn b c d) : 0 < turn a b d := by
  rw [turn_cr] at h ⊢
  rw [turn_cr2] at k
  exact (cr_trans (pos_of hab) (pos_of hbc) (pos_of hbd) (Int.le_of_lt h) (Int.le_of_lt k)).2 (.inl h)
/-- u < t < p, q < t: p left of u t, q not right of it: q left of t p -/
theorem turn_back {u t p q : Pt} (hut : lt u t) (htp : lt t p) (hqt : lt q t) (h : 0 < turn u t p) (k : 0 ≤ turn u t q) : 0 < turn t p q := by
  -- w = t - q
  have e1 : turn u t q = cr (t.1 - q.1) (t.2 - q.2) (t.1 - u.1) (t.2 - u.2) := by
    unfold turn cr
    grind
  have e2 : turn t p q = cr (t.1 - q.1) (t.2 - q.2) (p.1 - t.1) (p.2 - t.2) := by
    unfold turn cr
    grind
  rw [e1] at k
  rw [e2]
  rw [turn_cr] at h
  exact (cr_trans (pos_of hqt) (pos_of hut) (pos_of htp) k (Int.le_of_lt h)).2 (.inr h)

/-! ### the chain: a stack, its top first -/
def popC (p : Pt) : List Pt → List Pt
  | t :: u :: r => if turn u t p ≤ 0 then popC p (u :: r) else t :: u :: r
  | l => l
def chainC : List Pt → List Pt → List Pt
  | st, [] => st
  | st, p :: r => chainC (p :: popC p st) r
/-- of an edge from a to b: q is left of it, or on it -/
def Edge (a b q : Pt) : Prop := 0 < turn a b q ∨ (turn a b q = 0 ∧ ((le a q ∧ le q b) ∨ (le b q ∧ le q a)))
/-- the stack: strictly left turns, from the least up; m is at its foot; all of S lies left of its edges -/
inductive Stk (S : Pt → Prop) (m : Pt) : List Pt → Prop
  | one : Stk S m [m]
  | two {t : Pt} : lt m t → (∀ q, S q → Edge m t q) → Stk S m [t, m]
  | more {t u v : Pt} {r : List Pt} : lt u t → 0 < turn v u t → (∀ q, S q → Edge u t q) → Stk S m (u :: v :: r) → Stk S m (t :: u :: v :: r)
theorem Stk.sub {S S' : Pt → Prop} {m : Pt} {l : List Pt} (h : Stk S m l) (k : ∀ q, S' q → S q) : Stk S' m l := by
  induction h with
  | one => exact .one
  | two a b => exact .two a fun q z => b q (k q z)
  | more a b c d ih => exact .more a b (fun q z => c q (k q z)) ih
theorem Edge.ge {a b q : Pt} (h : Edge a b q) : 0 ≤ turn a b q := by
  rcases h with h | ⟨h, _⟩
  · exact Int.le_of_lt h
  · exact Int.le_of_eq h.symm
/-- a new point, after all: the stack's edges keep it left -/
theorem Stk.left {S : Pt → Prop} {m p : Pt} : ∀ {l : List Pt} {t u : Pt} {r : List Pt}, l = t :: u :: r → Stk S m l → lt t p → 0 < turn u t p → Stk (fun q => S q ∨ q = p) m l := by
  intro l t u r e h
  induction h generalizing t u r with
  | one => cases e
  | @two t' a b =>
    cases e
    intro hp ht
    exact .two a fun q z => by
      rcases z with z | rfl
      · exact b q z
      · exact .inl ht
  | @more t' u' v' r' a b c d ih =>
    cases e
    intro hp ht
    refine .more a b (fun q z => ?_) (ih rfl (lt_trans a hp) ?_)
    · rcases z with z | rfl
      · exact c q z
      · exact .inl ht
    · cases d with
      | two a' b' => exact turn_ext a' a (lt_trans a hp) b ht
      | more a' b' c' d' => exact turn_ext a' a (lt_trans a hp) b ht
theorem lt_of_le_ne {a b : Pt} (h : le a b) (k : a ≠ b) : lt a b := h.resolve_left k
/-- a pop keeps what is known -/
theorem pop_step {S : Pt → Prop} {u t p : Pt} (hS : ∀ q, S q → lt q p) (hut : lt u t) (htp : lt t p) (he : ∀ q, S q → Edge u t q) (hp : turn u t p ≤ 0) (hq : ∀ q, S q → le t q → 0 ≤ turn t p q) : ∀ q, S q → le u q → 0 ≤ turn u p q := by
  intro q z hu
  have hup := lt_trans hut htp
  have e1 : 0 ≤ turn u p t := by rw [turn_swap]; omega
  rcases hu with rfl | hu
  · rw [turn_self2]; exact Int.le_refl _
  · rcases lt_tri q t with c | c | c
    · exact (turn_trans hup hut hu e1 (he q z).ge).1
    · rw [c]; exact e1
    · have k := hq q z (.inr c)
      rw [turn_rot] at k e1 ⊢
      exact (turn_trans' (hS q z) htp hup k e1).1
theorem new_edge {S : Pt → Prop} {t p : Pt} (hS : ∀ q, S q → lt q p) (htp : lt t p) (hq : ∀ q, S q → le t q → 0 ≤ turn t p q) (hb : ∀ q, S q → lt q t → 0 < turn t p q) : ∀ q, (S q ∨ q = p) → Edge t p q := by
  intro q z
  rcases z with z | rfl
  · rcases lt_tri q t with c | c | c
    · exact .inl (hb q z c)
    · subst c
      exact .inr ⟨turn_self2 _ _, .inl ⟨le_refl _, .inr htp⟩⟩
    · have k := hq q z (.inr c)
      rcases Int.lt_or_eq_of_le k with k | k
      · exact .inl k
      · exact .inr ⟨k.symm, .inl ⟨.inr c, .inr (hS q z)⟩⟩
  · exact .inr ⟨turn_self _ _, .inl ⟨.inr htp, le_refl _⟩⟩
/-- S: what was gone over; p comes behind it all -/
theorem pop_ok {S : Pt → Prop} {m p : Pt} (hm : ∀ q, S q → le m q) (hS : ∀ q, S q → lt q p) : ∀ {l : List Pt} {t : Pt} {r : List Pt}, l = t :: r → Stk S m l → lt t p → (∀ q, S q → le t q → 0 ≤ turn t p q) → Stk (fun q => S q ∨ q = p) m (p :: popC p l) := by
  intro l t r e h
  induction h generalizing t r with
  | one =>
    cases e
    intro hp hq
    exact .two hp (new_edge hS hp hq fun q z c => (not_lt_of_le (hm q z) c).elim)
  | @two t' a b =>
    cases e
    intro hp hq
    unfold popC
    by_cases c : turn m t' p ≤ 0
    · rw [if_pos c]
      have k := pop_step hS a hp b c hq
      exact .two (lt_trans a hp) (new_edge hS (lt_trans a hp) k fun q z c => (not_lt_of_le (hm q z) c).elim)
    · rw [if_neg c]
      exact .more hp (by omega) (new_edge hS hp hq fun q z d => turn_back a hp d (by omega) (b q z).ge) ((Stk.two a b).left rfl hp (by omega))
  | @more t' u' v' r' a b c d ih =>
    cases e
    intro hp hq
    unfold popC
    by_cases k : turn u' t' p ≤ 0
    · rw [if_pos k]
      exact ih rfl (lt_trans a hp) (pop_step hS a hp c k hq)
    · rw [if_neg k]
      exact .more hp (by omega) (new_edge hS hp hq fun q z d => turn_back a hp d (by omega) (c q z).ge) ((Stk.more a b c d).left rfl hp (by omega))
theorem Stk.foot {S : Pt → Prop} {m : Pt} {l : List Pt} (h : Stk S m l) : ∀ x ∈ l, le m x := by
  induction h with
  | one => intro x hx; rw [List.mem_singleton.mp hx]; exact le_refl _
  | @two t a b =>
    intro x hx
    rcases List.mem_cons.mp hx with rfl | hx
    · exact .inr a
    · rw [List.mem_singleton.mp hx]; exact le_refl _
  | more a b c d ih =>
    intro x hx
    rcases List.mem_cons.mp hx with rfl | hx
    · exact le_trans (ih _ (by simp)) (.inr a)
    · exact ih x hx
theorem chain_ok {m : Pt} : ∀ (r done st : List Pt) (t : Pt) (st' : List Pt), st = t :: st' → Stk (fun q => q ∈ done) m st → (∀ q ∈ done, le m q ∧ le q t) → (t :: r).Pairwise lt → Stk (fun q => q ∈ done ++ r) m (chainC st r) ∧ (chainC st r).head? = (t :: r).getLast?
  | [], done, st, t, st', e, h, hd, hp => by
    subst e
    refine ⟨?_, rfl⟩
    show Stk _ m (t :: st')
    simpa using h
  | p :: r, done, st, t, st', e, h, hd, hp => by
    subst e
    rw [List.pairwise_cons] at hp
    have htp := hp.1 p (by simp)
    have hm : ∀ q ∈ done, le m q := fun q z => (hd q z).1
    have hS : ∀ q ∈ done, lt q p := fun q z => lt_of_le_lt (hd q z).2 htp
    have k := pop_ok hm hS rfl h htp fun q z c => by
      have : q = t := by
        rcases c with c | c
        · exact c.symm
        · exact (not_lt_of_le (hd q z).2 c).elim
      rw [this, turn_self2]
      exact Int.le_refl _
    have mt : le m t := h.foot t (by simp)
    obtain ⟨k1, k2⟩ := chain_ok (m := m) r (done ++ [p]) (p :: popC p (t :: st')) p _ rfl (k.sub fun q z => by simpa using z) (fun q z => by
      rcases List.mem_append.mp z with z | z
      · exact ⟨hm q z, .inr (hS q z)⟩
      · rw [List.mem_singleton.mp z]
        exact ⟨le_trans mt (.inr htp), le_refl _⟩) hp.2
    refine ⟨?_, ?_⟩
    · show Stk _ m (chainC (p :: popC p (t :: st')) r)
      simpa using k1
    · show (chainC (p :: popC p (t :: st')) r).head? = _
      rw [k2]
      simp [List.getLast?_cons_cons]

/-! ### walks along edges -/
/-- the list's steps: each an edge that keeps all of S left -/
def Walk (S : Pt → Prop) : List Pt → Prop
  | a :: b :: r => a ≠ b ∧ (∀ q, S q → Edge a b q) ∧ Walk S (b :: r)
  | _ => True
theorem Walk.append {S : Pt → Prop} : ∀ {l : List Pt} {a : Pt} {r : List Pt}, Walk S (l ++ [a]) → Walk S (a :: r) → Walk S (l ++ a :: r)
  | [], a, r, _, k => k
  | [x], a, r, h, k => ⟨h.1, h.2.1, k⟩
  | x :: y :: l, a, r, h, k => ⟨h.1, h.2.1, Walk.append (l := y :: l) h.2.2 k⟩
theorem Stk.desc {S : Pt → Prop} {m : Pt} {l : List Pt} (h : Stk S m l) : l.Pairwise (fun a b => lt b a) := by
  have key : ∀ {t : Pt} {r : List Pt}, (t :: r).Pairwise (fun a b => lt b a) → ∀ x, lt t x → (x :: t :: r).Pairwise (fun a b => lt b a) := by
    intro t r h x hx
    refine List.pairwise_cons.mpr ⟨fun y hy => ?_, h⟩
    rcases List.mem_cons.mp hy with rfl | hy
    · exact hx
    · exact lt_trans ((List.pairwise_cons.mp h).1 y hy) hx
  induction h with
  | one => simp
  | two a b => simpa using a
  | more a b c d ih => exact key ih _ a
theorem lt_ne {a b : Pt} (h : lt a b) : a ≠ b := fun z => by rw [z] at h; exact lt_irrefl _ h
theorem Stk.walk {S : Pt → Prop} {m : Pt} {l : List Pt} (h : Stk S m l) : Walk S l.reverse := by
  induction h with
  | one => exact True.intro
  | two a b => exact ⟨lt_ne a, b, True.intro⟩
  | @more t u v r a b c d ih =>
    rw [List.reverse_cons]
    have e : (u :: v :: r).reverse = (v :: r).reverse ++ [u] := List.reverse_cons ..
    rw [e] at ih ⊢
    rw [List.append_assoc]
    exact Walk.append ih ⟨lt_ne a, c, True.intro⟩
theorem Stk.last {S : Pt → Prop} {m : Pt} {l : List Pt} (h : Stk S m l) : l.getLast? = some m := by
  induction h with
  | one => rfl
  | two a b => rfl
  | more a b c d ih => rw [List.getLast?_cons_cons]; exact ih
/-! ### the other way round -/
def neg (p : Pt) : Pt := (-p.1, -p.2)
theorem neg_neg (p : Pt) : neg (neg p) = p := by
  obtain ⟨x, y⟩ := p
  simp [neg]
theorem neg_inj {a b : Pt} (h : neg a = neg b) : a = b := by rw [← neg_neg a, h, neg_neg]
theorem turn_neg (a b c : Pt) : turn (neg a) (neg b) (neg c) = turn a b c := by
  unfold turn neg
  grind
theorem lt_neg {a b : Pt} : lt (neg a) (neg b) ↔ lt b a := by
  unfold lt neg
  simp only
  omega
theorem le_neg {a b : Pt} : le (neg a) (neg b) ↔ le b a := by
  unfold le
  rw [lt_neg]
  constructor
  · rintro (h | h)
    · exact .inl (neg_inj h).symm
    · exact .inr h
  · rintro (h | h)
    · rw [h]; exact .inl rfl
    · exact .inr h
theorem edge_neg {a b q : Pt} (h : Edge (neg a) (neg b) (neg q)) : Edge a b q := by
  unfold Edge at *
  rw [turn_neg, le_neg, le_neg, le_neg, le_neg] at h
  rcases h with h | ⟨h, h2⟩
  · exact .inl h
  · exact .inr ⟨h, h2.symm.imp (fun k => ⟨k.2, k.1⟩) (fun k => ⟨k.2, k.1⟩)⟩
theorem pop_neg (p : Pt) : ∀ l : List Pt, popC (neg p) (l.map neg) = (popC p l).map neg
  | [] => rfl
  | [_] => rfl
  | t :: u :: r => by
    show (if turn (neg u) (neg t) (neg p) ≤ 0 then popC (neg p) ((u :: r).map neg) else (t :: u :: r).map neg) = (popC p (t :: u :: r)).map neg
    have e : popC p (t :: u :: r) = if turn u t p ≤ 0 then popC p (u :: r) else t :: u :: r := rfl
    rw [turn_neg, pop_neg p (u :: r), e]
    split <;> rfl
theorem chain_neg : ∀ (r st : List Pt), chainC (st.map neg) (r.map neg) = (chainC st r).map neg
  | [], _ => rfl
  | p :: r, st => by
    show chainC (neg p :: popC (neg p) (st.map neg)) (r.map neg) = _
    rw [pop_neg, ← List.map_cons, chain_neg r]
    rfl
theorem walk_neg {S : Pt → Prop} : ∀ {l : List Pt}, Walk (fun q => S (neg q)) (l.map neg) → Walk S l
  | [], _ => True.intro
  | [_], _ => True.intro
  | a :: b :: r, h => ⟨fun z => h.1 (by rw [z]), fun q z => edge_neg (h.2.1 (neg q) (by show S (neg (neg q)); rw [neg_neg]; exact z)), walk_neg (l := b :: r) h.2.2⟩
/-- the chain of a row in order -/
theorem chain_up {m : Pt} {r : List Pt} (h : (m :: r).Pairwise lt) : Walk (· ∈ m :: r) (chainC [] (m :: r)).reverse ∧ (chainC [] (m :: r)).reverse.Pairwise lt ∧ (chainC [] (m :: r)).reverse.head? = some m ∧ (chainC [] (m :: r)).reverse.getLast? = (m :: r).getLast? := by
  obtain ⟨k1, k2⟩ := chain_ok (m := m) r [m] [m] m [] rfl .one (fun q z => by rw [List.mem_singleton.mp z]; exact ⟨le_refl _, le_refl _⟩) h
  have e : chainC [] (m :: r) = chainC [m] r := rfl
  rw [e]
  refine ⟨?_, ?_, ?_, ?_⟩
  · have := k1.walk
    simpa using this
  · rw [List.pairwise_reverse]
    exact k1.desc
  · rw [List.head?_reverse]
    exact k1.last
  · rw [List.getLast?_reverse]
    exact k2
theorem chain_down {m : Pt} {r : List Pt} (h : (m :: r).Pairwise (fun a b => lt b a)) : Walk (· ∈ m :: r) (chainC [] (m :: r)).reverse ∧ (chainC [] (m :: r)).reverse.Pairwise (fun a b => lt b a) ∧ (chainC [] (m :: r)).reverse.head? = some m ∧ (chainC [] (m :: r)).reverse.getLast? = (m :: r).getLast? := by
  have h' : ((m :: r).map neg).Pairwise lt := by
    rw [List.pairwise_map]
    exact h.imp fun k => lt_neg.mpr k
  obtain ⟨k1, k2, k3, k4⟩ := chain_up (m := neg m) (r := r.map neg) h'
  have e : chainC [] (neg m :: r.map neg) = (chainC [] (m :: r)).map neg := chain_neg (m :: r) []
  rw [e, ← List.map_reverse] at k1 k2 k3 k4
  refine ⟨walk_neg ?_, ?_, ?_, ?_⟩
  · have : (fun q => neg q ∈ m :: r) = (· ∈ neg m :: r.map neg) := by
      funext q
      refine propext ⟨fun z => ?_, fun z => ?_⟩
      · have := List.mem_map_of_mem (f := neg) z
        rw [neg_neg] at this
        simpa using this
      · have z : q ∈ (m :: r).map neg := by simpa using z
        obtain ⟨y, hy, rfl⟩ := List.mem_map.mp z
        rw [neg_neg]
        exact hy
    rw [this]
    exact k1
  · rw [List.pairwise_map] at k2
    exact k2.imp fun k => lt_neg.mp k
  · rw [List.head?_map] at k3
    cases z : (chainC [] (m :: r)).reverse.head? with
    | none => rw [z] at k3; cases k3
    | some y =>
      rw [z] at k3
      rw [neg_inj (Option.some.inj k3)]
  · have e2 : ((m :: r).map neg).getLast? = ((m :: r).getLast?).map neg := List.getLast?_map ..
    have k4 : ((chainC [] (m :: r)).reverse.map neg).getLast? = ((m :: r).map neg).getLast? := k4
    rw [e2, List.getLast?_map] at k4
    cases z : (chainC [] (m :: r)).reverse.getLast? with
    | none =>
      rw [z] at k4
      cases y : (m :: r).getLast? with
      | none => rfl
      | some y' => rw [y] at k4; cases k4
    | some x =>
      rw [z] at k4
      cases y : (m :: r).getLast? with
      | none => rw [y] at k4; cases k4
      | some y' =>
        rw [y] at k4
        rw [neg_inj (Option.some.inj k4)]

/-! ### round the whole -/
/-- the program's ring: both chains, their last points left out -/
def ringC (S : List Pt) : List Pt := (chainC [] S).reverse.dropLast ++ (chainC [] S.reverse).reverse.dropLast
theorem head_dropLast {l : List Pt} {m M : Pt} (h : l.head? = some m) (k : l.getLast? = some M) (ne : m ≠ M) : ∃ r, l = m :: (r ++ [M]) := by
  cases l with
  | nil => cases h
  | cons a l =>
    cases h
    rcases List.eq_nil_or_concat l with rfl | ⟨r, b, rfl⟩
    · exact absurd (by simpa using k) ne
    · rw [List.concat_eq_append] at *
      refine ⟨r, ?_⟩
      have : (m :: (r ++ [b])).getLast? = some b := by
        rw [← List.cons_append, List.getLast?_append]
        simp
      rw [this] at k
      rw [Option.some.inj k]
/-- a step along an edge up from v and one down from v: there is no such v -/
theorem no_both {S : Pt → Prop} {v w u : Pt} (hw : lt v w) (hu : lt u v) (sw : S w) (su : S u) (h : Edge v w u) (k : Edge v u w) : False := by
  have e := turn_swap v u w
  have a : 0 < turn v w u := by
    rcases h with h | ⟨_, h⟩
    · exact h
    · rcases h with h | h
      · exact (lt_asymm (lt_of_le_lt h.1 hu) (lt_of_le_lt h.1 hu)).elim
      · exact (not_lt_of_le h.1 (lt_trans hu hw)).elim
  have b := k.ge
  omega
/-- what follows in a walk -/
theorem Walk.next {S : Pt → Prop} : ∀ {l : List Pt} {r : List Pt} {a b : Pt}, Walk S (l ++ a :: b :: r) → a ≠ b ∧ ∀ q, S q → Edge a b q
  | [], r, a, b, h => ⟨h.1, h.2.1⟩
  | [x], r, a, b, h => Walk.next (l := []) h.2.2
  | x :: y :: l, r, a, b, h => Walk.next (l := y :: l) h.2.2
theorem not_last {l : List Pt} {v M : Pt} (h : v ∈ l) : ∃ l1 b l2, l ++ [M] = l1 ++ v :: b :: l2 := by
  obtain ⟨l1, l2, rfl⟩ := List.append_of_mem h
  cases l2 with
  | nil => exact ⟨l1, M, [], by simp⟩
  | cons b l2 => exact ⟨l1, b, l2 ++ [M], by simp⟩
/-- c goes round S: a closed walk, no point twice -/
structure Ring (S : Pt → Prop) (c : List Pt) (m : Pt) : Prop where
  head : c.head? = some m
  walk : Walk S (c ++ [m])
  nd : c.Nodup
  sub : ∀ q ∈ c, S q
theorem pair_mem {S : List Pt} {R : Pt → Pt → Prop} {l1 l2 : List Pt} {a b : Pt} (h : (l1 ++ a :: b :: l2).Pairwise R) : R a b := by
  have := (List.pairwise_append.mp h).2.1
  exact (List.pairwise_cons.mp this).1 b (by simp)
theorem pop_sub (p : Pt) : ∀ (l : List Pt), ∀ q ∈ popC p l, q ∈ l
  | [], q, h => h
  | [_], q, h => h
  | t :: u :: r, q, h => by
    have e : popC p (t :: u :: r) = if turn u t p ≤ 0 then popC p (u :: r) else t :: u :: r := rfl
    rw [e] at h
    split at h
    · exact List.mem_cons_of_mem _ (pop_sub p (u :: r) q h)
    · exact h
theorem chain_sub : ∀ (r st : List Pt), ∀ q ∈ chainC st r, q ∈ st ∨ q ∈ r
  | [], st, q, h => .inl h
  | p :: r, st, q, h => by
    rcases chain_sub r (p :: popC p st) q h with z | z
    · rcases List.mem_cons.mp z with rfl | z
      · exact .inr (by simp)
      · exact .inl (pop_sub p st q z)
    · exact .inr (by simp [z])
theorem ring_ok {m n : Pt} {r : List Pt} (h : (m :: n :: r).Pairwise lt) : Ring (· ∈ m :: n :: r) (ringC (m :: n :: r)) m := by
  generalize hS : m :: n :: r = S at h ⊢
  obtain ⟨M, hM⟩ : ∃ M, S.getLast? = some M := by
    subst hS
    exact ⟨_, List.getLast?_eq_some_getLast (by simp)⟩
  obtain ⟨rd, hrd⟩ : ∃ rd, S.reverse = M :: rd := by
    have e : S.reverse.head? = some M := by rw [List.head?_reverse]; exact hM
    cases z : S.reverse with
    | nil => rw [z] at e; cases e
    | cons a l => rw [z] at e; cases e; exact ⟨l, rfl⟩
  have hmM : lt m M := by
    subst hS
    rw [List.getLast?_cons_cons] at hM
    exact (List.pairwise_cons.mp h).1 M (List.mem_of_getLast? hM)
  obtain ⟨a1, a2, a3, a4⟩ := chain_up (m := m) (r := n :: r) (by rw [hS]; exact h)
  rw [hS] at a1 a2 a3 a4
  have hd : (M :: rd).Pairwise (fun a b => lt b a) := by
    rw [← hrd, List.pairwise_reverse]
    exact h
  obtain ⟨b1, b2, b3, b4⟩ := chain_down hd
  rw [← hrd] at b1 b2 b3 b4
  have lastr : S.reverse.getLast? = some m := by rw [List.getLast?_reverse, ← hS]; rfl
  rw [lastr] at b4
  rw [hM] at a4
  obtain ⟨lo, elo⟩ := head_dropLast a3 a4 (lt_ne hmM)
  obtain ⟨hi, ehi⟩ := head_dropLast b3 b4 (lt_ne hmM).symm
  have e : ringC S = (m :: lo) ++ (M :: hi) := by
    unfold ringC
    rw [elo, ehi, ← List.cons_append, ← List.cons_append, List.dropLast_concat, List.dropLast_concat]
  have memS : ∀ q, q ∈ S.reverse ↔ q ∈ S := fun q => List.mem_reverse
  have b1 : Walk (· ∈ S) (chainC [] S.reverse).reverse := by
    have : (fun q => q ∈ S.reverse) = (fun q => q ∈ S) := funext fun q => propext (memS q)
    rw [← this]
    exact b1
  rw [elo] at a1 a2
  rw [ehi] at b1 b2
  have subLo : ∀ q ∈ m :: (lo ++ [M]), q ∈ S := fun q z => by
    rw [← elo] at z
    rcases chain_sub S [] q (List.mem_reverse.mp z) with y | y
    · cases y
    · exact y
  have subHi : ∀ q ∈ M :: (hi ++ [m]), q ∈ S := fun q z => by
    rw [← ehi] at z
    rcases chain_sub S.reverse [] q (List.mem_reverse.mp z) with y | y
    · cases y
    · exact (memS q).mp y
  refine ⟨by rw [e]; rfl, ?_, ?_, ?_⟩
  · rw [e, List.append_assoc]
    exact Walk.append (l := m :: lo) (a := M) (r := hi ++ [m]) a1 b1
  · rw [e]
    have n1 : (m :: lo).Nodup := by
      have := (List.pairwise_append.mp (show ((m :: lo) ++ [M]).Pairwise lt from a2)).1
      exact this.imp fun k => lt_ne k
    have n2 : (M :: hi).Nodup := by
      have := (List.pairwise_append.mp (show ((M :: hi) ++ [m]).Pairwise _ from b2)).1
      exact this.imp fun k => (lt_ne k).symm
    refine List.nodup_append.mpr ⟨n1, n2, fun v hv w hw z => ?_⟩
    subst z
    obtain ⟨l1, b, l2, q1⟩ := not_last (M := M) hv
    obtain ⟨k1, c, k2, q2⟩ := not_last (M := m) hw
    have q1' : m :: (lo ++ [M]) = l1 ++ v :: b :: l2 := q1
    have q2' : M :: (hi ++ [m]) = k1 ++ v :: c :: k2 := q2
    have sb : b ∈ S := subLo b (by rw [q1']; simp)
    have sc : c ∈ S := subHi c (by rw [q2']; simp)
    rw [q1'] at a1 a2
    rw [q2'] at b1 b2
    have w1 := Walk.next a1
    have w2 := Walk.next b1
    exact no_both (S := fun q => q ∈ S) (pair_mem (S := S) (R := lt) a2) (pair_mem (S := S) (R := fun a b => lt b a) b2) sb sc (w1.2 c sc) (w2.2 b sb)
  · intro q z
    rw [e] at z
    rcases List.mem_append.mp z with z | z
    · exact subLo q (by rw [← List.cons_append]; exact List.mem_append_left _ z)
    · exact subHi q (by rw [← List.cons_append]; exact List.mem_append_left _ z)
end HullM
/-! MHb: going round finds the ring. -/
namespace HullM
def far (h p : Pt) : Int := ((p.1 - h.1).natAbs : Int) + ((p.2 - h.2).natAbs : Int)
def cross (a b : Pt) : Int := a.1 * b.2 - a.2 * b.1
def sub (a b : Pt) : Pt := (a.1 - b.1, a.2 - b.2)
/-- seen from h: s is to be gone for rather than g -/
def beats (h g s : Pt) : Bool :=
  decide (cross (sub g h) (sub s h) < 0) || (decide (cross (sub g h) (sub s h) = 0) && (decide (far h s > far h g) && decide ((sub g h).1 * (sub s h).1 + (sub g h).2 * (sub s h).2 > 0)))
def goalC (h : Pt) (S : List Pt) (g : Pt) : Pt := S.foldl (fun g s => if beats h g s = true then s else g) g
/-- s0, s1: the first two rows -/
def wrapN (S : List Pt) (s0 s1 : Pt) : Nat → Pt → List Pt → List Pt
  | 0, _, found => found
  | n + 1, h, found =>
    let g := goalC h S (if h ≠ s0 then s0 else s1)
    if g = s0 then found ++ [h] else wrapN S s0 s1 n g (found ++ [h])
theorem cross_turn (h g s : Pt) : cross (sub g h) (sub s h) = turn h g s := by
  rw [turn_cr2]
  rfl
/-- u ahead, w ahead or nothing, in one line: both parts go the same way -/
theorem signs {ux uy wx wy : Int} (hu : pos ux uy) (hw : (wx = 0 ∧ wy = 0) ∨ pos wx wy) (hc : ux * wy = uy * wx) : 0 ≤ ux ∧ 0 ≤ wx ∧ ((0 ≤ uy ∧ 0 ≤ wy) ∨ (uy ≤ 0 ∧ wy ≤ 0)) := by
  unfold pos at *
  refine ⟨by omega, by omega, ?_⟩
  rcases hu with hu | ⟨rfl, hu⟩
  · by_cases c : 0 ≤ uy
    · left
      refine ⟨c, Classical.byContradiction fun z => ?_⟩
      have a := Int.mul_neg_of_pos_of_neg hu (by omega : wy < 0)
      have b := Int.mul_nonneg c (by omega : 0 ≤ wx)
      omega
    · right
      refine ⟨by omega, Classical.byContradiction fun z => ?_⟩
      have a := Int.mul_pos hu (by omega : 0 < wy)
      have b := Int.mul_nonneg (by omega : 0 ≤ -uy) (by omega : 0 ≤ wx)
      rw [Int.neg_mul] at b
      omega
  · left
    refine ⟨by omega, ?_⟩
    have : wx = 0 := by
      refine Classical.byContradiction fun z => ?_
      have a := Int.mul_pos hu (by omega : 0 < wx)
      omega
    omega
theorem line_pos {ux uy wx wy : Int} (hu : pos ux uy) (hw : (wx = 0 ∧ wy = 0) ∨ pos wx wy) (hc : ux * wy = uy * wx) :
    ((ux + wx).natAbs : Int) + ((uy + wy).natAbs : Int) = (ux.natAbs : Int) + (uy.natAbs : Int) + ((wx.natAbs : Int) + (wy.natAbs : Int)) ∧ 0 < ux * (ux + wx) + uy * (uy + wy) := by
  obtain ⟨a, b, c⟩ := signs hu hw hc
  refine ⟨by omega, ?_⟩
  rw [Int.mul_add, Int.mul_add]
  have m1 : 0 ≤ ux * wx := Int.mul_nonneg a b
  have m2 : 0 ≤ uy * wy := by
    rcases c with c | c
    · exact Int.mul_nonneg c.1 c.2
    · exact Int.mul_nonneg_of_nonpos_of_nonpos c.1 c.2
  have m3 : 0 ≤ ux * ux := Int.mul_nonneg a a
  have m4 : 0 ≤ uy * uy := by
    rcases c with c | c
    · exact Int.mul_nonneg c.1 c.1
    · exact Int.mul_nonneg_of_nonpos_of_nonpos c.1 c.1
  unfold pos at hu
  rcases hu with hu | hu
  · have := Int.mul_pos hu hu
    omega
  · have := Int.mul_pos hu.2 hu.2
    omega
/-- g on the way from h to q -/
theorem between {h g q : Pt} (ne : g ≠ h) (c : turn h q g = 0) (b : (le h g ∧ le g q) ∨ (le q g ∧ le g h)) :
    far h q = far h g + far g q ∧ 0 < (g.1 - h.1) * (q.1 - h.1) + (g.2 - h.2) * (q.2 - h.2) := by
  have hc : (g.1 - h.1) * (q.2 - g.2) = (g.2 - h.2) * (q.1 - g.1) := by
    unfold turn at c
    grind
  unfold far
  rcases b with ⟨b1, b2⟩ | ⟨b1, b2⟩
  · have hu := pos_of (lt_of_le_ne b1 (Ne.symm ne))
    have hw : (q.1 - g.1 = 0 ∧ q.2 - g.2 = 0) ∨ pos (q.1 - g.1) (q.2 - g.2) := by
      rcases b2 with rfl | b2
      · exact .inl ⟨by omega, by omega⟩
      · exact .inr (pos_of b2)
    have k := line_pos hu hw hc
    have e1 : g.1 - h.1 + (q.1 - g.1) = q.1 - h.1 := by omega
    have e2 : g.2 - h.2 + (q.2 - g.2) = q.2 - h.2 := by omega
    rw [e1, e2] at k
    exact k
  · have hu := pos_of (lt_of_le_ne b2 ne)
    have hw : (g.1 - q.1 = 0 ∧ g.2 - q.2 = 0) ∨ pos (g.1 - q.1) (g.2 - q.2) := by
      rcases b1 with rfl | b1
      · exact .inl ⟨by omega, by omega⟩
      · exact .inr (pos_of b1)
    have k := line_pos hu hw (by grind)
    have e1 : h.1 - g.1 + (g.1 - q.1) = h.1 - q.1 := by omega
    have e2 : h.2 - g.2 + (g.2 - q.2) = h.2 - q.2 := by omega
    rw [e1, e2] at k
    refine ⟨by omega, ?_⟩
    have z := k.2
    have e3 : (h.1 - g.1) * (h.1 - q.1) + (h.2 - g.2) * (h.2 - q.2) = (g.1 - h.1) * (q.1 - h.1) + (g.2 - h.2) * (q.2 - h.2) := by grind
    omega
theorem far_pos {a b : Pt} (h : a ≠ b) : 0 < far a b := by
  obtain ⟨x, y⟩ := a
  obtain ⟨z, w⟩ := b
  unfold far
  simp only [ne_eq, Prod.mk.injEq, not_and] at h
  simp only
  omega
theorem far_self (a : Pt) : far a a = 0 := by
  unfold far
  omega
theorem beats_q {h g q : Pt} (ne : g ≠ h) (nq : g ≠ q) (e : Edge h q g) : beats h g q = true := by
  unfold beats
  rw [cross_turn]
  rcases e with e | ⟨e, b⟩
  · have : turn h g q < 0 := by rw [turn_swap]; omega
    simp [this]
  · have t0 : turn h g q = 0 := by rw [turn_swap]; omega
    obtain ⟨k1, k2⟩ := between ne e b
    have := far_pos nq
    have f : far h q > far h g := by omega
    have d : (sub g h).1 * (sub q h).1 + (sub g h).2 * (sub q h).2 > 0 := k2
    simp only [t0, f, d, decide_true, Bool.and_self, Bool.or_true]
theorem no_beat {h q s : Pt} (e : Edge h q s) : beats h q s = false := by
  unfold beats
  rw [cross_turn]
  rcases e with e | ⟨e, b⟩
  · have a1 : ¬ turn h q s < 0 := by omega
    have a2 : ¬ turn h q s = 0 := by omega
    simp [a1, a2]
  · by_cases ns : s = h
    · subst ns
      have f : ¬ far s s > far s q := by
        rw [far_self]
        unfold far
        omega
      simp only [e, f, decide_false, Bool.false_and, Bool.and_false, Bool.or_false]
      decide
    · obtain ⟨k1, k2⟩ := between ns e b
      have f : ¬ far h s > far h q := by
        unfold far at *
        omega
      simp only [e, f, decide_false, Bool.false_and, Bool.and_false, Bool.or_false]
      decide
theorem no_here (h g : Pt) : beats h g h = false := by
  unfold beats
  rw [cross_turn, turn_self2]
  have f : ¬ far h h > far h g := by
    rw [far_self]
    unfold far
    omega
  simp only [f, decide_false, Bool.false_and, Bool.and_false, Bool.or_false]
  decide
theorem goal_ok {h q : Pt} {S : List Pt} (hq : h ≠ q) (e : ∀ p ∈ S, Edge h q p) : ∀ (l : List Pt) (g : Pt), (∀ p ∈ l, p ∈ S) → g ∈ S → g ≠ h → (g = q ∨ q ∈ l) → goalC h l g = q
  | [], g, _, _, _, hc => by
    rcases hc with rfl | hc
    · rfl
    · cases hc
  | s :: l, g, hl, hg, ng, hc => by
    show goalC h l (if beats h g s = true then s else g) = q
    have hl' : ∀ p ∈ l, p ∈ S := fun p hp => hl p (by simp [hp])
    have hs := hl s (by simp)
    by_cases gq : g = q
    · subst gq
      rw [no_beat (e s hs), if_neg Bool.false_ne_true]
      exact goal_ok hq e l g hl' hg ng (.inl rfl)
    · have hc : q ∈ s :: l := hc.resolve_left gq
      by_cases sq : s = q
      · subst sq
        rw [beats_q ng gq (e g hg), if_pos rfl]
        exact goal_ok hq e l s hl' hs (Ne.symm hq) (.inl rfl)
      · have hc : q ∈ l := (List.mem_cons.mp hc).resolve_left fun z => sq z.symm
        by_cases b : beats h g s = true
        · rw [if_pos b]
          refine goal_ok hq e l s hl' hs (fun z => ?_) (.inr hc)
          rw [z, no_here] at b
          cases b
        · rw [if_neg b]
          exact goal_ok hq e l g hl' hg ng (.inr hc)
theorem wrap_ok {S : List Pt} {s0 s1 : Pt} (h0 : s0 ∈ S) (h1 : s1 ∈ S) (ne : s0 ≠ s1) : ∀ (rest : List Pt) (h : Pt) (found : List Pt) (n : Nat), Walk (· ∈ S) (h :: rest ++ [s0]) → s0 ∉ rest → (∀ q ∈ rest, q ∈ S) → rest.length < n → wrapN S s0 s1 n h found = found ++ h :: rest
  | rest, h, found, 0, _, _, _, hn => absurd hn (by omega)
  | [], h, found, n + 1, w, _, _, _ => by
    have w' : h ≠ s0 ∧ (∀ q, q ∈ S → Edge h s0 q) ∧ _ := w
    have e : goalC h S (if h ≠ s0 then s0 else s1) = s0 := by
      rw [if_pos w'.1]
      exact goal_ok w'.1 w'.2.1 S s0 (fun _ z => z) h0 (Ne.symm w'.1) (.inl rfl)
    show (if goalC h S (if h ≠ s0 then s0 else s1) = s0 then found ++ [h] else _) = _
    rw [if_pos e]
  | q :: rest, h, found, n + 1, w, ns, hs, hn => by
    have w' : h ≠ q ∧ (∀ p, p ∈ S → Edge h q p) ∧ Walk (· ∈ S) (q :: rest ++ [s0]) := w
    have hq : q ∈ S := hs q (by simp)
    have e : goalC h S (if h ≠ s0 then s0 else s1) = q := by
      split
      · rename_i c
        exact goal_ok w'.1 w'.2.1 S s0 (fun _ z => z) h0 (Ne.symm c) (.inr hq)
      · rename_i c
        have c : h = s0 := Classical.byContradiction c
        exact goal_ok w'.1 w'.2.1 S s1 (fun _ z => z) h1 (by rw [c]; exact ne.symm) (.inr hq)
    have nq : q ≠ s0 := fun z => ns (by rw [z]; simp)
    show (if goalC h S (if h ≠ s0 then s0 else s1) = s0 then found ++ [h] else wrapN S s0 s1 n (goalC h S (if h ≠ s0 then s0 else s1)) (found ++ [h])) = _
    rw [e, if_neg nq, wrap_ok h0 h1 ne rest q (found ++ [h]) n w'.2.2 (fun z => ns (by simp [z])) (fun p hp => hs p (by simp [hp])) (by simpa using hn)]
    simp
/-- going round of S (its rows in order: m, n, ..) is any ring of it -/
theorem wrap_ring {m n : Pt} {r c : List Pt} (h : (m :: n :: r).Pairwise lt) (R : Ring (· ∈ m :: n :: r) c m) {k : Nat} (hk : c.length ≤ k) : wrapN (m :: n :: r) m n k m [] = c := by
  obtain ⟨hh, hw, hn, hs⟩ := R
  cases c with
  | nil => cases hh
  | cons a c =>
    cases hh
    rw [List.nodup_cons] at hn
    exact (wrap_ok (by simp) (by simp) (lt_ne ((List.pairwise_cons.mp h).1 n (by simp))) c m [] k hw hn.1 (fun q hq => hs q (by simp [hq])) (by rw [List.length_cons] at hk; omega)).trans (by simp)
theorem nodup_len : ∀ {c S : List Pt}, c.Nodup → (∀ q ∈ c, q ∈ S) → c.length ≤ S.length
  | [], _, _, _ => Nat.zero_le _
  | a :: c, S, hn, hs => by
    rw [List.nodup_cons] at hn
    have ha := hs a (by simp)
    have k := nodup_len (c := c) (S := S.erase a) hn.2 fun q hq => (List.mem_erase_of_ne fun z => hn.1 (by rw [← z]; exact hq)).mpr (hs q (by simp [hq]))
    rw [List.length_erase_of_mem ha] at k
    have := List.length_pos_of_mem ha
    rw [List.length_cons]
    omega
/-- the two hulls -/
def hullC (S : List Pt) : Option (List Pt) := if S.length < 3 then none else if (ringC S).length < 3 then none else some (ringC S)
def hullW (S : List Pt) : Option (List Pt) := match S with
  | m :: n :: p :: r =>
    let c := wrapN (m :: n :: p :: r) m n ((m :: n :: p :: r).length + 1) m []
    if c.length > 2 then some c else none
  | _ => none
theorem hulls_same {S : List Pt} (h : S.Pairwise lt) : hullW S = hullC S := by
  match S, h with
  | [], _ => rfl
  | [_], _ => rfl
  | [_, _], _ => rfl
  | m :: n :: p :: r, h =>
    have R := ring_ok h
    have e := wrap_ring (k := (m :: n :: p :: r).length + 1) h R (by have := nodup_len R.nd R.sub; omega)
    show (if (wrapN (m :: n :: p :: r) m n ((m :: n :: p :: r).length + 1) m []).length > 2 then some (wrapN (m :: n :: p :: r) m n ((m :: n :: p :: r).length + 1) m []) else none) = _
    rw [e]
    unfold hullC
    have l3 : ¬ (m :: n :: p :: r).length < 3 := by simp
    rw [if_neg l3]
    by_cases c : (ringC (m :: n :: p :: r)).length < 3
    · rw [if_pos c, if_neg (by omega)]
    · rw [if_neg c, if_pos (by omega)]
/-- the least of a row in order -/
theorem least {S : List Pt} {m a : Pt} {r r' : List Pt} (e : S = a :: r) (h : S.Pairwise lt) (hm : m ∈ S) (hl : ∀ q ∈ S, le m q) : a = m := by
  subst e
  rcases List.mem_cons.mp hm with z | z
  · exact z.symm
  · have k := (List.pairwise_cons.mp h).1 m z
    exact (not_lt_of_le (hl a (by simp)) k).elim
/-- a hull's hull is itself: T the hull's corners in order -/
theorem hull_again {S T c : List Pt} (h : S.Pairwise lt) (e : hullC S = some c) (hT : T.Pairwise lt) (he : ∀ q, q ∈ T ↔ q ∈ c) : hullC T = some c := by
  have h0 := e
  unfold hullC at h0
  split at h0
  · cases h0
  · rename_i l3
    split at h0
    · cases h0
    · rename_i c3
      have ec : ringC S = c := Option.some.inj h0
      match S, h, l3, ec with
      | [], _, l3, _ => exact absurd (by simp : ([] : List Pt).length < 3) l3
      | [_], _, l3, _ => exact absurd (by simp) l3
      | m :: n :: r, h, l3, ec =>
        have R := ring_ok h
        rw [ec] at R c3
        have hm : m ∈ c := by
          have := R.head
          cases c with
          | nil => cases this
          | cons a c => cases this; simp
        have lenT : c.length ≤ T.length := nodup_len R.nd fun q hq => (he q).mpr hq
        rw [← hulls_same hT]
        match T, hT, he, lenT with
        | [], _, _, lenT => simp only [List.length_nil, List.length_cons] at lenT; omega
        | [_], _, _, lenT => simp only [List.length_nil, List.length_cons] at lenT; omega
        | [_, _], _, _, lenT => simp only [List.length_nil, List.length_cons] at lenT; omega
        | a :: b :: d :: t, hT, he, lenT =>
          have ea : a = m := least (r' := []) rfl hT ((he m).mpr hm) fun q hq => by
            have hq : q ∈ m :: n :: r := R.sub q ((he q).mp hq)
            rcases List.mem_cons.mp hq with rfl | hq
            · exact le_refl _
            · exact .inr ((List.pairwise_cons.mp h).1 q hq)
          subst ea
          have wk : ∀ {S S' : Pt → Prop} (l : List Pt), (∀ q, S' q → S q) → Walk S l → Walk S' l := by
            intro S S' l hs
            induction l with
            | nil => intro _; exact True.intro
            | cons x l ih =>
              intro w
              cases l with
              | nil => exact True.intro
              | cons y l => exact ⟨w.1, fun q hq => w.2.1 q (hs q hq), ih w.2.2⟩
          have R' : Ring (· ∈ a :: b :: d :: t) c a := ⟨R.head, wk _ (fun q hq => R.sub q ((he q).mp hq)) R.walk, R.nd, fun q hq => (he q).mpr hq⟩
          have ew := wrap_ring (k := (a :: b :: d :: t).length + 1) hT R' (Nat.le_succ_of_le (nodup_len R'.nd R'.sub))
          show (if (wrapN (a :: b :: d :: t) a b ((a :: b :: d :: t).length + 1) a []).length > 2 then some (wrapN (a :: b :: d :: t) a b ((a :: b :: d :: t).length + 1) a []) else none) = _
          rw [ew, if_pos (by omega)]
end HullM
/-! DHb: points as data; their rows in order. -/
namespace DL
open PySem PySem.Spec PyProof.Rows L2 LamX HullM
abbrev ptD (p : Pt) : PyData := .tuple [.int p.1, .int p.2]
abbrev ptsD (l : List Pt) : List PyData := l.map ptD
def ptR (p : Pt) : List Int := [p.1, p.2]
def unR : List Int → Pt
  | [x, y] => (x, y)
  | _ => (0, 0)
theorem unR_ptR (p : Pt) : unR (ptR p) = p := rfl
theorem rowT_ptR (p : Pt) : rowT (ptR p) = ptD p := rfl
theorem rowD_pt (p : Pt) : rowD (ptD p) = some (ptR p) := rowD_row p.1 [p.2]
theorem leR_pt (p q : Pt) : leR (ptR p) (ptR q) = decide (le p q) := by
  unfold leR ptR
  rw [decide_eq_decide]
  obtain ⟨a, b⟩ := p
  obtain ⟨c, d⟩ := q
  unfold le lt
  simp only [Prod.mk.injEq]
  rw [← List.not_lt]
  simp only [List.cons_lt_cons_iff]
  constructor
  · intro h
    have h1 : ¬ c < a := fun z => h (.inl z)
    have h2 : ¬ (c = a ∧ d < b) := fun z => h (.inr ⟨z.1, .inl z.2⟩)
    by_cases e : c = a <;> by_cases f : d < b <;> omega
  · rintro h (z | ⟨z1, z2 | ⟨z3, z4⟩⟩)
    · omega
    · omega
    · exact absurd z4 (by simp)
/-- the points' rows: in order, each once -/
def rowsP (l : List Pt) : List Pt := (srtRows (l.map ptR)).map unR
theorem rows_mem (l : List Pt) (k : List Int) (h : k ∈ srtRows (l.map ptR)) : ∃ p ∈ l, k = ptR p := by
  unfold srtRows at h
  rw [List.mem_mergeSort, mem_dedup, List.mem_map] at h
  obtain ⟨p, hp, e⟩ := h
  exact ⟨p, hp, e.symm⟩
theorem rows_back (l : List Pt) : (rowsP l).map ptR = srtRows (l.map ptR) := by
  unfold rowsP
  rw [List.map_map]
  have : ∀ k ∈ srtRows (l.map ptR), (ptR ∘ unR) k = k := fun k hk => by
    obtain ⟨p, _, rfl⟩ := rows_mem l k hk
    rfl
  rw [List.map_congr_left this]
  simp
theorem rowsP_mem (l : List Pt) (p : Pt) : p ∈ rowsP l ↔ p ∈ l := by
  constructor
  · intro h
    obtain ⟨k, hk, rfl⟩ := List.mem_map.mp h
    obtain ⟨q, hq, rfl⟩ := rows_mem l k hk
    exact hq
  · intro h
    refine List.mem_map.mpr ⟨ptR p, ?_, rfl⟩
    unfold srtRows
    rw [List.mem_mergeSort, mem_dedup]
    exact List.mem_map_of_mem h
theorem rowsP_lt (l : List Pt) : (rowsP l).Pairwise lt := by
  have h1 : (srtRows (l.map ptR)).Pairwise (fun a b => leR a b = true) := List.pairwise_mergeSort leR_trans leR_total _
  have h2 : (srtRows (l.map ptR)).Nodup := (List.mergeSort_perm _ _).nodup_iff.mpr (dedup_nodup _)
  rw [← rows_back] at h1 h2
  rw [List.pairwise_map] at h1
  have h3 : (rowsP l).Nodup := List.Pairwise.of_map ptR (fun a b h e => h (by rw [e])) h2
  refine List.Pairwise.imp₂ ?_ h1 h3
  intro a b c d
  rw [leR_pt] at c
  exact lt_of_le_ne (of_decide_eq_true c) d
theorem rowsT_eq (l : List Pt) : (srtRows (l.map ptR)).map rowT = ptsD (rowsP l) := by
  rw [← rows_back, List.map_map]
  rfl
theorem rowsP_len (l : List Pt) : (rowsP l).length ≤ l.length := by
  refine nodup_len ?_ fun q hq => (rowsP_mem l q).mp hq
  exact (rowsP_lt l).imp fun h => lt_ne h
/-- the rows are told by what is in them -/
theorem lt_uniq : ∀ {a b : List Pt}, a.Pairwise lt → b.Pairwise lt → (∀ p, p ∈ a ↔ p ∈ b) → a = b
  | [], [], _, _, _ => rfl
  | [], y :: b, _, _, h => absurd ((h y).mpr (by simp)) (by simp)
  | x :: a, [], _, _, h => absurd ((h x).mp (by simp)) (by simp)
  | x :: a, y :: b, ha, hb, h => by
    rw [List.pairwise_cons] at ha hb
    have e : x = y := by
      rcases List.mem_cons.mp ((h x).mp (by simp)) with z | z
      · exact z
      · rcases List.mem_cons.mp ((h y).mpr (by simp)) with w | w
        · exact w.symm
        · exact (lt_asymm (ha.1 y w) (hb.1 x z)).elim
    subst e
    rw [lt_uniq ha.2 hb.2 fun p => ?_]
    constructor
    · intro z
      rcases List.mem_cons.mp ((h p).mp (by simp [z])) with w | w
      · subst w
        exact (lt_irrefl _ (ha.1 p z)).elim
      · exact w
    · intro z
      rcases List.mem_cons.mp ((h p).mpr (by simp [z])) with w | w
      · subst w
        exact (lt_irrefl _ (hb.1 p z)).elim
      · exact w
theorem rowsP_same {a b : List Pt} (h : ∀ p, p ∈ a ↔ p ∈ b) : rowsP a = rowsP b :=
  lt_uniq (rowsP_lt a) (rowsP_lt b) fun p => by rw [rowsP_mem, rowsP_mem]; exact h p
/-- the hull of any points -/
def hull (l : List Pt) : Option (List Pt) := hullC (rowsP l)
theorem hull_hull {l c : List Pt} (h : hull l = some c) : hull c = some c :=
  hull_again (rowsP_lt l) h (rowsP_lt c) fun q => rowsP_mem c q
/-- the keys, gone through -/
theorem dkN_pts (t : TM) (e v : EM) (s : Src) (dw : Sl) (G : Ms) (ok : s.ok G) : ∀ (l : List Pt) (acc : List (List Int)), acc.length + l.length ≤ sizeLine → (∀ p ∈ l, ∃ ds y, t (.d (ptD p)) dw G = some (ds, G) ∧ e ds G = .ok (.d (ptD p)) G ∧ v ds G = .ok (.d y) G) →
    dkN t e v s dw (ptsD l) acc G = .ok ((l.map ptR).foldl addK acc) G
  | [], acc, _, _ => by
    show dkN t e v s dw [] acc G = _
    unfold dkN
    rw [if_pos ok]
    rfl
  | p :: l, acc, hz, h => by
    obtain ⟨ds, y, h1, h2, h3⟩ := h p (by simp)
    show dkN t e v s dw (ptD p :: ptsD l) acc G = _
    rw [List.length_cons] at hz
    rw [dkN, if_pos ok, h1]
    simp only
    rw [h2]
    simp only
    rw [h3]
    simp only
    rw [rowD_pt]
    simp only
    rw [if_pos ⟨by omega, trivial⟩, dkN_pts t e v s dw G ok l (addK acc (ptR p)) (by have := addK_len acc (ptR p); omega) fun q hq => h q (by simp [hq])]
    rfl
theorem cutD_m1 {α : Type} (xs : List α) : cutD xs none (some (-1)) = xs.dropLast := by
  unfold cutD HT.sIx
  simp only [show ((-1 : Int) < 0) from by decide, if_true, Nat.sub_zero, List.drop_zero]
  rw [List.dropLast_eq_take]
  congr 1
  omega
@[simp] theorem datas_map (xs : List PyData) : datas (xs.map .d) = some xs := by
  induction xs with
  | nil => rfl
  | cons x xs ih => rw [List.map_cons, datas_cons, ih]; rfl
theorem datas_app (xs ys : List PyData) : datas (xs.map .d ++ ys.map .d) = some (xs ++ ys) := by rw [← List.map_append, datas_map]
theorem sIx_pos (n d : Nat) (k : Int) (h : 0 ≤ k) : HT.sIx n d (some k) = min k.toNat n := by
  show (if k < 0 then (k + (n : Int)).toNat else min k.toNat n) = _
  rw [if_neg (by omega)]
theorem cutD_from {α : Type} (xs : List α) (k : Int) (h : 0 ≤ k) : cutD xs (some k) none = xs.drop k.toNat := by
  unfold cutD
  rw [sIx_pos _ _ _ h, HT.sIx_none]
  by_cases c : k.toNat ≤ xs.length
  · rw [Nat.min_eq_left c, List.take_of_length_le (by simp)]
  · rw [Nat.min_eq_right (by omega), List.drop_of_length_le (Nat.le_refl _), List.drop_of_length_le (by omega), List.take_nil]
theorem cutD_to {α : Type} (xs : List α) (k : Int) (h : 0 ≤ k) : cutD xs none (some k) = xs.take k.toNat := by
  unfold cutD
  rw [sIx_pos _ _ _ h, HT.sIx_none, Nat.sub_zero, List.drop_zero]
  by_cases c : k.toNat ≤ xs.length
  · rw [Nat.min_eq_left c]
  · rw [Nat.min_eq_right (by omega), List.take_length, List.take_of_length_le (by omega)]
/-! ### what a hull is of -/
theorem hullC_sub {S c : List Pt} (h : S.Pairwise lt) (e : hullC S = some c) : (∀ q ∈ c, q ∈ S) ∧ c.length ≤ S.length ∧ 3 ≤ c.length := by
  unfold hullC at e
  split at e
  · cases e
  · rename_i l3
    split at e
    · cases e
    · rename_i c3
      have ec : ringC S = c := Option.some.inj e
      match S, h, l3, ec with
      | [], _, l3, _ => exact absurd (by simp : ([] : List Pt).length < 3) l3
      | [_], _, l3, _ => exact absurd (by simp) l3
      | m :: n :: r, h, l3, ec =>
        have R := ring_ok h
        rw [ec] at R c3
        exact ⟨R.sub, nodup_len R.nd R.sub, by omega⟩
theorem hull_sub {l c : List Pt} (e : hull l = some c) : (∀ q ∈ c, q ∈ l) ∧ c.length ≤ l.length ∧ 3 ≤ c.length := by
  obtain ⟨a, b, d⟩ := hullC_sub (rowsP_lt l) e
  exact ⟨fun q hq => (rowsP_mem l q).mp (a q hq), Nat.le_trans b (rowsP_len l), d⟩
/-- the rows, put in one by one: to be computed -/
def ltB (a b : Pt) : Bool := decide (a.1 < b.1) || (decide (a.1 = b.1) && decide (a.2 < b.2))
theorem ltB_iff {a b : Pt} : ltB a b = true ↔ lt a b := by
  unfold ltB lt
  simp
def putP (p : Pt) : List Pt → List Pt
  | [] => [p]
  | q :: r => if ltB p q = true then p :: q :: r else if p = q then q :: r else q :: putP p r
theorem putP_mem (p : Pt) : ∀ (l : List Pt) (x : Pt), x ∈ putP p l ↔ x = p ∨ x ∈ l
  | [], x => by simp [putP]
  | q :: r, x => by
    unfold putP
    by_cases c : ltB p q = true
    · rw [if_pos c]
      simp
    · rw [if_neg c]
      by_cases e : p = q
      · rw [if_pos e]
        subst e
        simp
      · rw [if_neg e, List.mem_cons, putP_mem p r x, List.mem_cons]
        constructor
        · rintro (h | h | h)
          · exact .inr (.inl h)
          · exact .inl h
          · exact .inr (.inr h)
        · rintro (h | h | h)
          · exact .inr (.inl h)
          · exact .inl h
          · exact .inr (.inr h)
theorem putP_lt (p : Pt) : ∀ (l : List Pt), l.Pairwise lt → (putP p l).Pairwise lt
  | [], _ => by simp [putP]
  | q :: r, h => by
    rw [List.pairwise_cons] at h
    unfold putP
    by_cases c : ltB p q = true
    · rw [if_pos c, List.pairwise_cons]
      refine ⟨fun x hx => ?_, List.pairwise_cons.mpr h⟩
      rcases List.mem_cons.mp hx with rfl | hx
      · exact ltB_iff.mp c
      · exact lt_trans (ltB_iff.mp c) (h.1 x hx)
    · rw [if_neg c]
      by_cases e : p = q
      · rw [if_pos e]
        exact List.pairwise_cons.mpr h
      · rw [if_neg e, List.pairwise_cons]
        refine ⟨fun x hx => ?_, putP_lt p r h.2⟩
        rcases (putP_mem p r x).mp hx with rfl | hx
        · rcases lt_tri x q with z | z | z
          · exact absurd (ltB_iff.mpr z) c
          · exact absurd z e
          · exact z
        · exact h.1 x hx
def rowsI : List Pt → List Pt
  | [] => []
  | p :: l => putP p (rowsI l)
theorem rowsI_mem : ∀ (l : List Pt) (x : Pt), x ∈ rowsI l ↔ x ∈ l
  | [], x => by simp [rowsI]
  | p :: l, x => by rw [rowsI, putP_mem, rowsI_mem l x, List.mem_cons]
theorem rowsI_lt : ∀ l : List Pt, (rowsI l).Pairwise lt
  | [] => List.Pairwise.nil
  | p :: l => putP_lt p _ (rowsI_lt l)
theorem rowsP_I (l : List Pt) : rowsP l = rowsI l := lt_uniq (rowsP_lt l) (rowsI_lt l) fun p => by rw [rowsP_mem, rowsI_mem]
/-- the hull, to be computed -/
def hullI (l : List Pt) : Option (List Pt) := hullC (rowsI l)
theorem hull_I (l : List Pt) : hull l = hullI l := by unfold hull hullI; rw [rowsP_I]
theorem pts_of {Q : Pt → Prop} : ∀ {ys : List PyData}, (∀ y ∈ ys, ∃ p, y = ptD p ∧ Q p) → ∃ l, ys = ptsD l ∧ (∀ p ∈ l, Q p) ∧ l.length = ys.length
  | [], _ => ⟨[], rfl, by simp, rfl⟩
  | y :: ys, h => by
    obtain ⟨p, rfl, hp⟩ := h y (by simp)
    obtain ⟨l, rfl, hl, hn⟩ := pts_of fun z hz => h z (List.mem_cons_of_mem _ hz)
    refine ⟨p :: l, rfl, fun q hq => ?_, by simp⟩
    rcases List.mem_cons.mp hq with rfl | hq
    · exact hp
    · exact hl q hq
theorem atI_mem {α : Type} (xs : List α) (v : Int) (h0 : 0 ≤ v) (h1 : v < (xs.length : Int)) : ∃ x, x ∈ xs ∧ atI xs v = some x := by
  obtain ⟨i, rfl⟩ := Int.eq_ofNat_of_zero_le h0
  have hi : i < xs.length := by omega
  exact ⟨xs[i], List.getElem_mem hi, by rw [atI_nat]; exact List.getElem?_eq_getElem hi⟩
end DL
/-! DHc: data that repr shows in few signs. -/
namespace DL
open PySem PySem.Spec PyProof.Rows L2 LamX HullM
@[simp] theorem sz_1 : (1 : Nat) ≤ sizeLine := by decide
@[simp] theorem sz_2 : (2 : Nat) ≤ sizeLine := by decide
@[simp] theorem sz_3 : (3 : Nat) ≤ sizeLine := by decide
@[simp] theorem sz_4 : (4 : Nat) ≤ sizeLine := by decide
@[simp] theorem sz_5 : (5 : Nat) ≤ sizeLine := by decide
@[simp] theorem sz_6 : (6 : Nat) ≤ sizeLine := by decide
@[simp] theorem sz_7 : (7 : Nat) ≤ sizeLine := by decide
@[simp] theorem sz_8 : (8 : Nat) ≤ sizeLine := by decide
@[simp] theorem sz_9 : (9 : Nat) ≤ sizeLine := by decide
@[simp] theorem sz_10 : (10 : Nat) ≤ sizeLine := by decide
@[simp] theorem sz_11 : (11 : Nat) ≤ sizeLine := by decide
@[simp] theorem sz_12 : (12 : Nat) ≤ sizeLine := by decide
@[simp] theorem sz_13 : (13 : Nat) ≤ sizeLine := by decide
@[simp] theorem sz_14 : (14 : Nat) ≤ sizeLine := by decide
@[simp] theorem sz_15 : (15 : Nat) ≤ sizeLine := by decide
@[simp] theorem sz_16 : (16 : Nat) ≤ sizeLine := by decide
@[simp] theorem sz_17 : (17 : Nat) ≤ sizeLine := by decide
@[simp] theorem sz_18 : (18 : Nat) ≤ sizeLine := by decide
@[simp] theorem sz_19 : (19 : Nat) ≤ sizeLine := by decide
@[simp] theorem sz_20 : (20 : Nat) ≤ sizeLine := by decide
@[simp] theorem sz_21 : (21 : Nat) ≤ sizeLine := by decide
@[simp] theorem sz_22 : (22 : Nat) ≤ sizeLine := by decide
@[simp] theorem sz_23 : (23 : Nat) ≤ sizeLine := by decide
@[simp] theorem sz_24 : (24 : Nat) ≤ sizeLine := by decide
@[simp] theorem sz_25 : (25 : Nat) ≤ sizeLine := by decide
@[simp] theorem sz_26 : (26 : Nat) ≤ sizeLine := by decide
@[simp] theorem sz_27 : (27 : Nat) ≤ sizeLine := by decide
@[simp] theorem sz_28 : (28 : Nat) ≤ sizeLine := by decide
@[simp] theorem sz_29 : (29 : Nat) ≤ sizeLine := by decide
@[simp] theorem sz_30 : (30 : Nat) ≤ sizeLine := by decide
structure Fit (d w : Nat) (x : PyData) : Prop where
  pl : x.plain = true
  sh : x.showable = true
  dp : x.depth ≤ d
  lv : x.leavesShort 100 = true
  bk : x.bulk ≤ w
theorem Fit.mono {d w d2 w2 : Nat} {x : PyData} (h : Fit d w x) (a : d ≤ d2) (b : w ≤ w2) : Fit d2 w2 x := ⟨h.pl, h.sh, Nat.le_trans h.dp a, h.lv, Nat.le_trans h.bk b⟩
theorem fit_none {d w : Nat} : Fit d w .none := ⟨rfl, rfl, Nat.zero_le _, rfl, Nat.zero_le _⟩
theorem fit_bool {d w : Nat} {b : Bool} : Fit d w (.bool b) := ⟨rfl, rfl, Nat.zero_le _, rfl, Nat.zero_le _⟩
theorem fit_int {d w : Nat} {i : Int} (h : i.natAbs ≤ 1000000000000000000000000000000) : Fit d w (.int i) := by
  refine ⟨rfl, ?_, Nat.zero_le _, ?_, Nat.zero_le _⟩
  · unfold PyData.showable
    refine decide_eq_true ?_
    by_cases z : i.natAbs = 0
    · rw [z]
      decide
    · exact (Nat.log2_lt z).mpr (Nat.lt_of_le_of_lt h (by decide))
  · unfold PyData.leavesShort
    refine decide_eq_true ?_
    have k : i.natAbs < 10 ^ 40 := Nat.lt_of_le_of_lt h (by decide)
    have e := int_text_length_le10 (k := 40) (by decide) k
    rw [PyData.shown]
    rw [PySem.ofString_length]
    omega
theorem fit_str {d w : Nat} {s : Str} (h : s.cps.size ≤ w) (a : (s.cps.toList.all fun c => decide (c < 16 ^ 8)) = true) : Fit d w (.str s) := ⟨rfl, rfl, Nat.zero_le _, by unfold PyData.leavesShort; exact a, by unfold PyData.bulk; exact h⟩
theorem fitAll {d w : Nat} : ∀ {xs : List PyData}, (∀ x ∈ xs, Fit d w x) → PyData.plainAll xs = true ∧ PyData.showableAll xs = true ∧ PyData.depthAll xs ≤ d ∧ PyData.leavesShortAll 100 xs = true ∧ PyData.bulkAll xs ≤ xs.length * (w + 1)
  | [], _ => ⟨rfl, rfl, Nat.zero_le _, rfl, Nat.zero_le _⟩
  | x :: xs, h => by
    have k := h x (by simp)
    obtain ⟨a, b, c, e, f⟩ := fitAll fun y hy => h y (List.mem_cons_of_mem _ hy)
    refine ⟨by rw [PyData.plainAll, k.pl, a]; rfl, by rw [PyData.showableAll, k.sh, b]; rfl, ?_, by rw [PyData.leavesShortAll, k.lv, e]; rfl, ?_⟩
    · have := k.dp
      rw [PyData.depthAll]
      omega
    · have := k.bk
      rw [PyData.bulkAll, List.length_cons, Nat.add_mul, Nat.one_mul]
      omega
theorem fit_tup {d w n : Nat} {xs : List PyData} (h : ∀ x ∈ xs, Fit d w x) (hn : xs.length ≤ n) : Fit (d + 1) (n * (w + 1)) (.tuple xs) := by
  obtain ⟨a, b, c, e, f⟩ := fitAll h
  have := Nat.mul_le_mul_right (w + 1) hn
  refine ⟨by rw [PyData.plain]; exact a, by rw [PyData.showable]; exact b, ?_, by rw [PyData.leavesShort]; exact e, ?_⟩
  · rw [PyData.depth]
    omega
  · rw [PyData.bulk]
    omega
theorem fit_list {d w n : Nat} {xs : List PyData} (h : ∀ x ∈ xs, Fit d w x) (hn : xs.length ≤ n) : Fit (d + 1) (n * (w + 1)) (.list xs) := by
  obtain ⟨a, b, c, e, f⟩ := fitAll h
  have := Nat.mul_le_mul_right (w + 1) hn
  refine ⟨by rw [PyData.plain]; exact a, by rw [PyData.showable]; exact b, ?_, by rw [PyData.leavesShort]; exact e, ?_⟩
  · rw [PyData.depth]
    omega
  · rw [PyData.bulk]
    omega
theorem fa_nil {d w : Nat} : ∀ x ∈ ([] : List PyData), Fit d w x := by simp
theorem fa_cons {d w : Nat} {x : PyData} {xs : List PyData} (h : Fit d w x) (t : ∀ y ∈ xs, Fit d w y) : ∀ y ∈ x :: xs, Fit d w y := by
  intro y hy
  rcases List.mem_cons.mp hy with rfl | hy
  · exact h
  · exact t y hy
theorem fa_app {d w : Nat} {xs ys : List PyData} (h : ∀ y ∈ xs, Fit d w y) (t : ∀ y ∈ ys, Fit d w y) : ∀ y ∈ xs ++ ys, Fit d w y := by
  intro y hy
  rcases List.mem_append.mp hy with hy | hy
  · exact h y hy
  · exact t y hy
theorem Fit.shown {x : PyData} (h : Fit 90 100000 x) : x.shown.length ≤ sizeLine := by
  have k := PyData.shown_le_bulk 100 (by decide) x h.lv
  have e : sizeLine = 16777216 := rfl
  have := h.bk
  omega
theorem Fit.repr {x : PyData} (h : Fit 90 100000 x) (G : Ms) : reprF [.d x] G = some (.d (.str x.shown), G) := by
  rw [reprF_ap]
  have k := h.dp
  simp [h.pl, h.sh, h.shown, (show x.depth < 100 by omega)]
theorem Fit.same {x : PyData} (h : Fit 90 100000 x) (G : Ms) : eqF false (.d x) (.d x) G = some (.d (.bool true), G) := by
  have k := h.dp
  rw [eqF_d false _ _ G h.pl h.pl (by omega), eqv_refl x h.pl]
  rfl
theorem fit_pt {w : Nat} {p : Pt} (h1 : p.1.natAbs ≤ 1000000000000000000000000000000) (h2 : p.2.natAbs ≤ 1000000000000000000000000000000) : Fit 1 2 (ptD p) := fit_tup (w := 0) (fa_cons (fit_int h1) (fa_cons (fit_int h2) fa_nil)) (Nat.le_refl _)
theorem fit_pts {n : Nat} {l : List Pt} (h : ∀ p ∈ l, p.1.natAbs ≤ 1000000000000000000000000000000 ∧ p.2.natAbs ≤ 1000000000000000000000000000000) (hn : l.length ≤ n) : Fit 2 (n * 3) (.tuple (ptsD l)) :=
  fit_tup (d := 1) (w := 2) (fun x hx => by
    obtain ⟨p, hp, rfl⟩ := List.mem_map.mp hx
    exact fit_pt (w := 0) (h p hp).1 (h p hp).2) (by rw [List.length_map]; exact hn)
/-- a comprehension whose items change the store, counted -/
theorem compN_cnt (t : TM) (e : EM) (s : Src) (dw : Sl) (I : Nat → Ms → Prop) (R : PyData → Prop) : ∀ (l acc : List PyData) (i : Nat) (G : Ms), acc.length + l.length ≤ sizeLine → I i G → (∀ i G acc, I i G → s.ok (G ++ [.lst acc])) →
    (∀ x ∈ l, ∀ j G acc, j < i + l.length → I j G → ∃ ds y G', t (.d x) dw (G ++ [.lst acc]) = some (ds, G ++ [.lst acc]) ∧ e ds (G ++ [.lst acc]) = .ok (.d y) (G' ++ [.lst acc]) ∧ G'.length = G.length ∧ I (j + 1) G' ∧ R y) →
    ∃ ys G', compN t yesB e s dw l acc G = .ok (acc ++ ys) G' ∧ I (i + l.length) G' ∧ ys.length = l.length ∧ (∀ y ∈ ys, R y)
  | [], acc, i, G, _, hi, ok, _ => ⟨[], G, by unfold compN; rw [if_pos (ok i G acc hi), List.append_nil], hi, rfl, by simp⟩
  | x :: l, acc, i, G, hz, hi, ok, h => by
    obtain ⟨ds, y, G', h1, h2, h3, h4, h5⟩ := h x (by simp) i G acc (by simp) hi
    rw [List.length_cons] at hz
    obtain ⟨ys, G2, k1, k2, k3, k4⟩ := compN_cnt t e s dw I R l (acc ++ [y]) (i + 1) G' (by rw [List.length_append]; simp; omega) h4 ok fun z hz j G acc hj => h z (by simp [hz]) j G acc (by rw [List.length_cons]; omega)
    refine ⟨y :: ys, G2, ?_, by rw [List.length_cons, show i + (l.length + 1) = i + 1 + l.length by omega]; exact k2, by simp [k3], fun z hz => ?_⟩
    · rw [compN, if_pos (ok i G acc hi), h1]
      simp only
      rw [h2]
      simp only
      rw [if_pos (by omega), ← h3, back_self]
      simp only
      rw [k1]
      simp
    · rcases List.mem_cons.mp hz with rfl | hz
      · exact h5
      · exact k4 z hz
theorem rangeD_len (n : Nat) : (rangeD 0 n).length = n := by simp [rangeD]
theorem len_pts (l : List Pt) : (ptsD l).length = l.length := List.length_map ..
theorem take_pts (l : List Pt) (n : Nat) : (ptsD l).take n = ptsD (l.take n) := (List.map_take ..).symm
theorem drop_pts (l : List Pt) (n : Nat) : (ptsD l).drop n = ptsD (l.drop n) := (List.map_drop ..).symm
theorem app_pts (l m : List Pt) : ptsD l ++ ptsD m = ptsD (l ++ m) := (List.map_append ..).symm
end DL
/-! DHd: the end: what a law's last theorem asks. -/
namespace DL
open PySem PySem.Spec PyProof.Rows L2 LamX
/-- the law's own promise, whatever the heap that is begun with -/
theorem lawG {l : PySem.W.OpenLaw} {w : World} {K : PySem.W.Frag} {k : Nat} {ps : List Str} {mg : Str → Option Value} {fa : Addr} {base : Heap} {T : List (Addr × Str)} {F : FM} {x : Str} {oc : Value} {od : Option Addr} {osl : Array (Option Value)} {fd : FuncData}
    (c : CalG l.prog w K mg base T k x ps F) (hfa : mg x = some (.ref fa)) (lk : K.lookup fa = some ⟨oc, od, .func fd, osl⟩) : FnG l.prog w K mg base k fa fd ps (spD K mg T ps.length F) := by
  obtain ⟨f', fd', h1, _, _, h4, oc', od', osl', h5⟩ := c.ex
  cases h1.symm.trans hfa
  rw [lk] at h5
  cases h5
  exact h4
theorem lawAt_mk {l : PySem.W.OpenLaw} {w : World} {K : PySem.W.Frag} {k n : Nat} {x : Str} {mg : Str → Option Value} {fa c P : Addr} {h : Heap} {T : List (Addr × Str)} {F : FM} {fd : FuncData} (X : K.In h) (hc : PySem.W.codeHdIn K c P = true) (hP : h.get? P = some (tblO #[])) (nP : K.lookup P = none)
    (hb : ∀ (s : Shared) (u : Value), BindsTo s fd ⟨[u], []⟩ [(x, u)]) (hT : ∀ q ∈ T, q.1 = P) (hF : ∀ ns : List Int, ns.length ≤ n → (∀ z ∈ ns, Builtin.Int.intBits z ≤ 1048576) → ∃ G, F [.scr ns] [] = .ok (.d (.bool true)) G)
    (hG : ∀ base : Heap, K.In base → base.Ns mainGlobals mg → TabB base mg c P → FnG l.prog w K mg base k fa fd [x] (spD K mg T 1 F)) : LawAtG l w K k n x mg fa h :=
  ⟨fd, [(c, P)], T, F, fun p hp => by rcases List.mem_singleton.mp hp with rfl; exact hP, fun p hp => by rcases List.mem_singleton.mp hp with rfl; exact nP, fun p hp => by rcases List.mem_singleton.mp hp with rfl; exact PySem.W.codeHd_of_K X hc, hb,
    fun q hq => ⟨(c, P), by simp, hT q hq⟩, hF, fun base KX G TB => hG base KX G (TB (c, P) (by simp))⟩
def plS (p0 p1 : Pos) (env : Env) : Sem Bool := do return (← importBound (.Call (.Name "super" p0) [] [] p1) env).getD true
theorem exc2_mi {l : PySem.W.OpenLaw} {w : World} {K : PySem.W.Frag} {mg : MgT} {h base : Heap} {x f1 f2 name qual : Str} {k : Nat} {C fI cc cda : Addr} {oc : Value} {od : Option Addr} {params : Arguments} {scope : Scope} {dV kV doc pm ct : Value} {an : Option Addr} {osl : Array (Option Value)} {p0 p1 ap cp ep a1 a2 b1 b2 b3 b4 c1 c2 c3 c4 : Pos}
    {nm q N bs bm sn sub ab col dd k0 k1 k2 k3 k5} {cl cld csl} (X : K.In h) (G : h.Ns mainGlobals mg)
    (a : PySem.W.nsIn K mainGlobals x = some (some (.ref C))) (i0 : PySem.W.findIn K (.ref C) "__init__" = some (some (.ref fI)))
    (lk : K.lookup fI = some ⟨oc, od, .func (PySem.W.ksFn name qual params [.Expr (.Call (.Attribute (.Call (.Name "super" p0) [] [] p1) "__init__" ap) [.Name f1 a1, .Name f2 a2] [] cp) ep,
      .Assign [.Attribute (.Name "self" b1) f1 b2] (.Name f1 b3) b4, .Assign [.Attribute (.Name "self" c1) f2 c2] (.Name f2 c3) c4] scope dV kV doc pm an (.ref cda) ct cc), osl⟩)
    (lC : K.lookup C = some (excClassObj nm q C N bs bm true sn sub ab col dd k0 k1 k2 k3 k5 "ValueError.__new__")) (lc : K.lookup cc = some ⟨cl, cld, .cell (some (.ref C)), csl⟩)
    (i : initB K C fI f1 f2 = true) (hcd : PySem.W.codeIn K (.ref cda) qual = true) (r : PySem.HandSPX.refsVE bm = true) (ob : oexB K C = true) (fl : fileB K cda l.prog.main.file = true) (sb : supB K C = true) (tp : (l.prog.main.scope.names.lookup ("super" : Str)).isSome = false) (z : PySem.W.nsIn K mainGlobals "super" = some none)
    (S : ScopeI ["self", f1, f2] ["self", f1, f2] scope) {ar : Arg} (hpar : (params.posonlyargs ++ params.args).head? = some ar) (hself : ar.arg = "self")
    (d1 : (f1 == ("__debug__" : Str)) = false ∧ (f1 == ("__classdict__" : Str)) = false) (d2 : (f2 == ("__debug__" : Str)) = false ∧ (f2 == ("__classdict__" : Str)) = false)
    (hsw : ∀ env : Env, swapsWith (.Call (.Attribute (.Call (.Name "super" p0) [] [] p1) "__init__" ap) [.Name f1 a1, .Name f2 a2] [] cp) none ep.line env = pure false)
    (hw1 : ∀ env : Env, swapsWith (.Name f1 b3) (some (.Attribute (.Name "self" b1) f1 b2)) b4.line env = pure false) (hw2 : ∀ env : Env, swapsWith (.Name f2 c3) (some (.Attribute (.Name "self" c1) f2 c2)) c4.line env = pure false)
    (hev : ∀ env : Env, eval (.Call (.Attribute (.Call (.Name "super" p0) [] [] p1) "__init__" ap) [.Name f1 a1, .Name f2 a2] [] cp) env = (do
      let ov ← attributeBase (.Call (.Name "super" p0) [] [] p1) "__init__" env (eval (.Call (.Name "super" p0) [] [] p1) env)
      standAt ap.atName
      let (f, first) ← holding [ov] (getMethod ov "__init__" (plS p0 p1 env))
      callWith cp f first (backTo cp (starEach [.Name f1 a1, .Name f2 a2] env)) []))
    (hb : ∀ us : List Value, us.length = 3 → bindArgs (PySem.W.ksFn name qual params [.Expr (.Call (.Attribute (.Call (.Name "super" p0) [] [] p1) "__init__" ap) [.Name f1 a1, .Name f2 a2] [] cp) ep,
      .Assign [.Attribute (.Name "self" b1) f1 b2] (.Name f1 b3) b4, .Assign [.Attribute (.Name "self" c1) f2 c2] (.Name f2 c3) c4] scope dV kV doc pm an (.ref cda) ct cc) ⟨us, []⟩ = pure ((["self", f1, f2] : List Str).zip us)) : Exc2 l.prog w K mg base (k + 1) x f1 f2 :=
  exc2_mk X G a i lk hcd (sup_mk X G (oex_mk lC r ob) lc fl sb tp z) S hpar hself d1 d2 hsw hw1 hw2 (plS p0 p1) hev hb
end DL
/-! MHc: points within a hull; a shifted hull; areas. -/
namespace HullM
theorem le_anti {a b : Pt} (h : le a b) (k : le b a) : a = b := by
  rcases h with h | h
  · exact h
  · exact (not_lt_of_le k h).elim
/-- two edges that follow turn strictly -/
theorem strict {a b d : Pt} (hab : a ≠ b) (hbd : b ≠ d) (had : a ≠ d) (e1 : Edge a b d) (e2 : Edge b d a) : 0 < turn a b d := by
  rcases e1 with h | ⟨h, h1⟩
  · exact h
  · rcases e2 with k | ⟨k, h2⟩
    · rw [turn_rot]
      exact k
    · exfalso
      rcases h1 with ⟨x, y⟩ | ⟨x, y⟩
      · rcases h2 with ⟨z, w⟩ | ⟨z, w⟩
        · exact hab (le_anti (le_trans x y) z)
        · exact had (le_anti x z)
      · rcases h2 with ⟨z, w⟩ | ⟨z, w⟩
        · exact had (le_anti w y)
        · exact hab (le_anti w (le_trans x y))
theorem cr_par {ux uy wx wy vx vy : Int} (pu : pos ux uy) (pw : pos wx wy) (h : cr ux uy wx wy = 0) (k : 0 < cr ux uy vx vy) : 0 < cr wx wy vx vy := by
  have e := cr_id ux uy wx wy vx vy
  rw [h, Int.mul_zero, Int.add_zero] at e
  unfold pos at pu pw
  rcases pw with pw | ⟨rfl, pw⟩
  · have m := Int.mul_pos pw k
    have u0 : 0 < ux := by
      rcases pu with pu | ⟨rfl, pu⟩
      · exact pu
      · rw [Int.zero_mul] at e
        omega
    rw [e] at m
    by_cases c : 0 < cr wx wy vx vy
    · exact c
    · have n := Int.mul_nonneg (Int.le_of_lt u0) (show 0 ≤ -cr wx wy vx vy by omega)
      rw [Int.mul_neg] at n
      omega
  · rw [Int.zero_mul] at e
    have u0 : ux = 0 := by
      unfold cr at h
      rw [Int.mul_zero] at h
      rcases pu with pu | ⟨pu, _⟩
      · have := Int.mul_pos pu pw
        omega
      · exact pu
    subst u0
    have uy0 : 0 < uy := by omega
    unfold cr at k ⊢
    rw [Int.zero_mul] at k ⊢
    have v0 : vx < 0 := by
      by_cases c : vx < 0
      · exact c
      · have := Int.mul_nonneg (Int.le_of_lt uy0) (show 0 ≤ vx by omega)
        omega
    have := Int.mul_pos pw (show 0 < -vx by omega)
    rw [Int.mul_neg] at this
    omega
theorem edge_up {z a b d q : Pt} (hab : lt a b) (t1 : 0 < turn z a b) (t2 : 0 < turn a b d) (g1 : 0 ≤ turn z a q) (g2 : 0 ≤ turn a b q) (g3 : 0 ≤ turn b d q) : Edge a b q := by
  by_cases h : 0 < turn a b q
  · exact .inl h
  · have h0 : turn a b q = 0 := by omega
    refine .inr ⟨h0, .inl ⟨?_, ?_⟩⟩
    · rcases lt_tri a q with x | x | x
      · exact .inr x
      · exact .inl x
      · exfalso
        have c0 : cr (b.1 - a.1) (b.2 - a.2) (a.1 - q.1) (a.2 - q.2) = 0 := by
          have e : turn a b q = - cr (b.1 - a.1) (b.2 - a.2) (a.1 - q.1) (a.2 - q.2) := by
            unfold turn cr
            grind
          omega
        have c1 : 0 < cr (b.1 - a.1) (b.2 - a.2) (z.1 - a.1) (z.2 - a.2) := by
          have e : turn z a b = cr (b.1 - a.1) (b.2 - a.2) (z.1 - a.1) (z.2 - a.2) := by
            unfold turn cr
            grind
          omega
        have c2 := cr_par (pos_of hab) (pos_of x) c0 c1
        have e : turn z a q = - cr (a.1 - q.1) (a.2 - q.2) (z.1 - a.1) (z.2 - a.2) := by
          unfold turn cr
          grind
        omega
    · rcases lt_tri q b with x | x | x
      · exact .inr x
      · exact .inl x
      · exfalso
        have c0 : cr (b.1 - a.1) (b.2 - a.2) (q.1 - b.1) (q.2 - b.2) = 0 := by
          have e : turn a b q = cr (b.1 - a.1) (b.2 - a.2) (q.1 - b.1) (q.2 - b.2) := rfl
          omega
        have c1 : 0 < cr (b.1 - a.1) (b.2 - a.2) (d.1 - b.1) (d.2 - b.2) := t2
        have c2 := cr_par (pos_of hab) (pos_of x) c0 c1
        have e : turn b d q = - cr (q.1 - b.1) (q.2 - b.2) (d.1 - b.1) (d.2 - b.2) := by
          unfold turn cr
          grind
        omega
theorem edge_of {z a b d q : Pt} (hab : a ≠ b) (t1 : 0 < turn z a b) (t2 : 0 < turn a b d) (g1 : 0 ≤ turn z a q) (g2 : 0 ≤ turn a b q) (g3 : 0 ≤ turn b d q) : Edge a b q := by
  rcases lt_tri a b with x | x | x
  · exact edge_up x t1 t2 g1 g2 g3
  · exact absurd x hab
  · refine edge_neg (edge_up (z := neg z) (d := neg d) (lt_neg.mpr x) ?_ ?_ ?_ ?_ ?_)
    all_goals rw [turn_neg]
    all_goals assumption
/-- q is left of the first, or on its line, at each step -/
def Ge (q : Pt) : List Pt → Prop
  | a :: b :: r => 0 ≤ turn a b q ∧ Ge q (b :: r)
  | _ => True
def T3 : List Pt → Prop
  | a :: b :: d :: r => 0 < turn a b d ∧ T3 (b :: d :: r)
  | _ => True
def D3 : List Pt → Prop
  | a :: b :: d :: r => a ≠ d ∧ D3 (b :: d :: r)
  | _ => True
theorem walk_mem {S : Pt → Prop} : ∀ {l : List Pt}, Walk S l → (∀ p ∈ l, S p) → D3 l → T3 l
  | [], _, _, _ => True.intro
  | [_], _, _, _ => True.intro
  | [_, _], _, _, _ => True.intro
  | a :: b :: d :: r, w, hs, hd => ⟨strict w.1 w.2.2.1 hd.1 (w.2.1 d (hs d (by simp))) (w.2.2.2.1 a (hs a (by simp))), walk_mem (l := b :: d :: r) w.2.2 (fun p hp => hs p (by simp [hp])) hd.2⟩
theorem walk_ge {S : Pt → Prop} {q : Pt} (hq : S q) : ∀ {l : List Pt}, Walk S l → Ge q l
  | [], _ => True.intro
  | [_], _ => True.intro
  | a :: b :: r, w => ⟨(w.2.1 q hq).ge, walk_ge hq (l := b :: r) w.2.2⟩
/-- with a step ahead and a step behind: the steps between are edges of q, too -/
theorem ge_walk {S : Pt → Prop} {q : Pt} : ∀ (l : List Pt) (z d : Pt), Walk S l → T3 (z :: (l ++ [d])) → Ge q (z :: (l ++ [d])) → Walk (fun p => S p ∨ p = q) l
  | [], _, _, _, _, _ => True.intro
  | [_], _, _, _, _, _ => True.intro
  | [a, b], z, d, w, t, g => ⟨w.1, fun p hp => by
      rcases hp with hp | rfl
      · exact w.2.1 p hp
      · exact edge_of w.1 t.1 t.2.1 g.1 g.2.1 g.2.2.1, True.intro⟩
  | a :: b :: e :: r, z, d, w, t, g => ⟨w.1, fun p hp => by
      rcases hp with hp | rfl
      · exact w.2.1 p hp
      · exact edge_of w.1 t.1 t.2.1 g.1 g.2.1 g.2.2.1, ge_walk (b :: e :: r) a d w.2.2 t.2 g.2⟩
theorem walk_sub {S S' : Pt → Prop} (hs : ∀ q, S' q → S q) : ∀ {l : List Pt}, Walk S l → Walk S' l
  | [], _ => True.intro
  | [_], _ => True.intro
  | _ :: _ :: _, w => ⟨w.1, fun q hq => w.2.1 q (hs q hq), walk_sub hs (l := _ :: _) w.2.2⟩
theorem nodup_D3 : ∀ {l : List Pt}, l.Nodup → D3 l
  | [], _ => True.intro
  | [_], _ => True.intro
  | [_, _], _ => True.intro
  | a :: b :: d :: r, h => by
    rw [List.nodup_cons] at h
    exact ⟨fun z => h.1 (by rw [z]; simp), nodup_D3 (l := b :: d :: r) h.2⟩
theorem D3_app : ∀ {l : List Pt} {x y a b : Pt}, D3 (l ++ [x, y]) → x ≠ a → y ≠ b → D3 (l ++ [x, y, a, b])
  | [], _, _, _, _, _, h1, h2 => ⟨h1, h2, True.intro⟩
  | [u], _, _, _, _, h, h1, h2 => ⟨h.1, h1, h2, True.intro⟩
  | u :: v :: l, x, y, a, b, h, h1, h2 => by
    cases l with
    | nil => exact ⟨h.1, D3_app (l := [v]) h.2 h1 h2⟩
    | cons w l => exact ⟨h.1, D3_app (l := v :: w :: l) h.2 h1 h2⟩
/-- the ring's corners p0, p1, .., pk, from the last on and one further -/
theorem ring_T3 {S : Pt → Prop} {c : List Pt} {m : Pt} (R : Ring S c m) {p1 : Pt} {mid : List Pt} {x y : Pt} (e : c = m :: p1 :: mid) (el : ∃ l, c = l ++ [x, y]) (h3 : 3 ≤ c.length) : T3 (y :: (c ++ [m, p1])) := by
  obtain ⟨l, hl⟩ := el
  have nd := R.nd
  have hx : x ≠ m := fun z => by
    rw [hl] at nd h3
    cases l with
    | nil => simp at h3
    | cons a l =>
      have : a = m := by rw [hl] at e; simp at e; exact e.1
      subst this
      rw [List.cons_append, List.nodup_cons] at nd
      exact nd.1 (by rw [z]; simp)
  have hy : y ≠ p1 := fun z => by
    rw [hl] at nd h3 e
    cases l with
    | nil => simp at h3
    | cons a l =>
      cases l with
      | nil =>
        simp at e
        subst z
        rw [List.cons_append, List.nodup_cons] at nd
        have := nd.2
        simp at this
        exact this e.2.1
      | cons b l =>
        simp at e
        obtain ⟨_, rfl, _⟩ := e
        rw [List.cons_append, List.nodup_cons] at nd
        rw [List.cons_append, List.nodup_cons] at nd
        exact nd.2.1 (by rw [← z]; simp)
  have w : Walk S (c ++ [m, p1]) := by
    have w2 : Walk S [m, p1] := by
      have := R.walk
      rw [e] at this
      exact ⟨this.1, this.2.1, True.intro⟩
    exact Walk.append R.walk w2
  have wy : Walk S (y :: (c ++ [m, p1])) := by
    have h := R.walk
    have : Walk S [y, m] := by
      rw [hl] at h
      have key : ∀ l : List Pt, Walk S (l ++ [x, y] ++ [m]) → Walk S [y, m] := by
        intro l
        induction l with
        | nil => intro h; exact h.2.2
        | cons a l ih =>
          intro h
          cases l with
          | nil => exact ih h.2.2
          | cons b l => exact ih h.2.2
      exact key l h
    rw [e] at w ⊢
    exact ⟨this.1, this.2.1, w⟩
  have sp : ∀ p ∈ y :: (c ++ [m, p1]), S p := fun p hp => by
    have hc : p ∈ c := by
      rcases List.mem_cons.mp hp with rfl | hp
      · rw [hl]; simp
      · rcases List.mem_append.mp hp with hp | hp
        · exact hp
        · rw [e]
          rcases List.mem_cons.mp hp with rfl | hp
          · simp
          · rw [List.mem_singleton.mp hp]; simp
    exact R.sub p hc
  refine walk_mem wy sp ?_
  have d1 : D3 (c ++ [m, p1]) := by
    rw [hl, List.append_assoc]
    exact D3_app (by rw [← hl]; exact nodup_D3 nd) hx hy
  rw [e] at d1 ⊢
  exact ⟨hy, d1⟩
/-- the last two -/
theorem last_two {c : List Pt} (h : 2 ≤ c.length) : ∃ l x y, c = l ++ [x, y] := by
  induction c with
  | nil => simp at h
  | cons a c ih =>
    match c, h with
    | [b], _ => exact ⟨[], a, b, rfl⟩
    | b :: d :: c, _ =>
      obtain ⟨l, x, y, e⟩ := ih (by simp)
      exact ⟨a :: l, x, y, by rw [e]; rfl⟩
theorem ge_app {q : Pt} : ∀ {l : List Pt} {a : Pt} {r : List Pt}, Ge q (l ++ [a]) → Ge q (a :: r) → Ge q (l ++ a :: r)
  | [], a, r, _, k => k
  | [x], a, r, h, k => ⟨h.1, k⟩
  | x :: y :: l, a, r, h, k => ⟨h.1, ge_app (l := y :: l) h.2 k⟩
theorem ge_last {q : Pt} : ∀ {l : List Pt} {x y : Pt}, Ge q (l ++ [x, y]) → 0 ≤ turn x y q
  | [], _, _, h => h.1
  | [a], _, _, h => h.2.1
  | a :: b :: l, _, _, h => ge_last (l := b :: l) h.2
/-- a point that no edge has to its right: the ring is the ring of both -/
theorem ring_more {S : Pt → Prop} {c : List Pt} {m q : Pt} (R : Ring S c m) (h3 : 3 ≤ c.length) (hl : ∀ p, S p → le m p) (g : Ge q (c ++ [m])) : Ring (fun p => S p ∨ p = q) c m ∧ le m q := by
  obtain ⟨p1, mid, e⟩ : ∃ p1 mid, c = m :: p1 :: mid := by
    have hh := R.head
    match c, h3 with
    | a :: b :: r, _ =>
      cases hh
      exact ⟨b, r, rfl⟩
  obtain ⟨l, x, y, el⟩ := last_two (c := c) (by omega)
  have t := ring_T3 R e ⟨l, el⟩ h3
  have g2 : Ge q (c ++ [m, p1]) := ge_app g (by rw [e] at g; exact ⟨g.1, True.intro⟩)
  have gy : 0 ≤ turn y m q := by
    rw [el, List.append_assoc] at g
    exact ge_last (l := l ++ [x]) (by simpa using g)
  have g3 : Ge q (y :: (c ++ [m, p1])) := by
    rw [e] at g2 ⊢
    exact ⟨gy, g2⟩
  have ea : c ++ [m, p1] = (c ++ [m]) ++ [p1] := by simp
  have w : Walk (fun p => S p ∨ p = q) (c ++ [m]) := ge_walk (c ++ [m]) y p1 R.walk (by rw [← ea]; exact t) (by rw [← ea]; exact g3)
  refine ⟨⟨R.head, w, R.nd, fun p hp => .inl (R.sub p hp)⟩, ?_⟩
  rcases lt_tri m q with z | z | z
  · exact .inr z
  · exact .inl z
  · exfalso
    have sy : S y := R.sub y (by rw [el]; simp)
    have s1 : S p1 := R.sub p1 (by rw [e]; simp)
    have nd := R.nd
    have y1 : lt m y := lt_of_le_ne (hl y sy) fun k => by
      rw [el] at nd h3
      cases l with
      | nil => simp at h3
      | cons a l =>
        have : a = m := by rw [el] at e; simp at e; exact e.1
        subst this
        rw [List.cons_append, List.nodup_cons] at nd
        exact nd.1 (by rw [k]; simp)
    have p11 : lt m p1 := lt_of_le_ne (hl p1 s1) fun k => by
      rw [e, List.nodup_cons] at nd
      exact nd.1 (by rw [k]; simp)
    have t0 : 0 < turn y m p1 := by rw [e] at t; exact t.1
    have g1 : 0 ≤ turn m p1 q := by rw [e] at g; exact g.1
    have e1 : turn m p1 q = cr (m.1 - q.1) (m.2 - q.2) (p1.1 - m.1) (p1.2 - m.2) := by
      unfold turn cr
      grind
    have e2 : turn y m q = cr (y.1 - m.1) (y.2 - m.2) (m.1 - q.1) (m.2 - q.2) := by
      unfold turn cr
      grind
    have e3 : turn y m p1 = - cr (y.1 - m.1) (y.2 - m.2) (p1.1 - m.1) (p1.2 - m.2) := by
      unfold turn cr
      grind
    rw [e1] at g1
    rw [e2] at gy
    have := (cr_trans (pos_of y1) (pos_of z) (pos_of p11) gy g1).1
    omega
end HullM
namespace DL
open HullM
theorem ring_rows {l c : List Pt} (e : hull l = some c) : ∃ m, Ring (· ∈ l) c m ∧ (∀ q ∈ l, le m q) ∧ 3 ≤ c.length := by
  have hS := rowsP_lt l
  have h3 := (hull_sub e).2.2
  unfold hull at e
  have hm := rowsP_mem l
  generalize rowsP l = S at *
  unfold hullC at e
  split at e
  · cases e
  · rename_i l3
    split at e
    · cases e
    · have ec : ringC S = c := Option.some.inj e
      match S, hS, l3, ec with
      | [], _, l3, _ => exact absurd (by simp : ([] : List Pt).length < 3) l3
      | [_], _, l3, _ => exact absurd (by simp) l3
      | m :: n :: r, hS, l3, ec =>
        have R := ring_ok hS
        rw [ec] at R
        refine ⟨m, ⟨R.head, walk_sub (fun q hq => (hm q).mpr hq) R.walk, R.nd, fun q hq => (hm q).mp (R.sub q hq)⟩, fun q hq => ?_, h3⟩
        rcases List.mem_cons.mp ((hm q).mpr hq) with rfl | z
        · exact le_refl _
        · exact .inr ((List.pairwise_cons.mp hS).1 q z)
theorem hull_ring {l c : List Pt} {m : Pt} (R : Ring (· ∈ l) c m) (hl : ∀ q ∈ l, le m q) (h3 : 3 ≤ c.length) : hull l = some c := by
  have hS := rowsP_lt l
  have hm := rowsP_mem l
  unfold hull
  generalize rowsP l = T at *
  have R' : Ring (· ∈ T) c m := ⟨R.head, walk_sub (fun q hq => (hm q).mp hq) R.walk, R.nd, fun q hq => (hm q).mpr (R.sub q hq)⟩
  have lenT := nodup_len R'.nd R'.sub
  rw [← hulls_same hS]
  have mm : m ∈ T := R'.sub m (by
    have := R'.head
    cases c with
    | nil => cases this
    | cons a c => cases this; simp)
  match T, hS, hm, R', lenT, mm with
  | [], _, _, _, lenT, _ => simp only [List.length_nil, List.length_cons] at lenT; omega
  | [_], _, _, _, lenT, _ => simp only [List.length_nil, List.length_cons] at lenT; omega
  | [_, _], _, _, _, lenT, _ => simp only [List.length_nil, List.length_cons] at lenT; omega
  | a :: b :: d :: t, hS, hm, R', lenT, mm =>
    have ea : a = m := least (r' := []) rfl hS mm fun q hq => hl q ((hm q).mp hq)
    subst ea
    have ew := wrap_ring (k := (a :: b :: d :: t).length + 1) hS R' (Nat.le_succ_of_le lenT)
    show (if (wrapN (a :: b :: d :: t) a b ((a :: b :: d :: t).length + 1) a []).length > 2 then some (wrapN (a :: b :: d :: t) a b ((a :: b :: d :: t).length + 1) a []) else none) = _
    rw [ew, if_pos (by omega)]
/-- the steps of a part, from its first corner on -/
def steps (c : List Pt) : List Pt := c ++ c.take 1
/-- a point in a part: the hull stays as it is -/
theorem within_iff {c : List Pt} (e : hull c = some c) (q : Pt) : Ge q (steps c) ↔ hull (c ++ [q]) = some c := by
  obtain ⟨m, R, hl, h3⟩ := ring_rows e
  have es : steps c = c ++ [m] := by
    have := R.head
    unfold steps
    cases c with
    | nil => cases this
    | cons a c => cases this; rfl
  rw [es]
  constructor
  · intro g
    obtain ⟨R2, hq⟩ := ring_more R h3 hl g
    refine hull_ring (m := m) ⟨R2.head, walk_sub (fun p hp => ?_) R2.walk, R2.nd, fun p hp => List.mem_append_left _ (R.sub p hp)⟩ (fun p hp => ?_) h3
    · rcases List.mem_append.mp hp with hp | hp
      · exact .inl hp
      · exact .inr (List.mem_singleton.mp hp)
    · rcases List.mem_append.mp hp with hp | hp
      · exact hl p hp
      · rw [List.mem_singleton.mp hp]
        exact hq
  · intro h
    obtain ⟨m2, R2, _, _⟩ := ring_rows h
    have em : m2 = m := by
      have h1 := R.head
      have h2 := R2.head
      rw [h1] at h2
      exact (Option.some.inj h2).symm
    subst em
    exact walk_ge (S := (· ∈ c ++ [q])) (by simp) R2.walk
end DL
/-! MHd: areas; shifts; the first of the greatest. -/
namespace DL
open HullM
/-! ### areas -/
def shoe : List Pt → Int
  | a :: b :: r => cross a b + shoe (b :: r)
  | _ => 0
def fan (o : Pt) : List Pt → Int
  | a :: b :: r => cross (sub a o) (sub b o) + fan o (b :: r)
  | _ => 0
theorem fan_shoe (o : Pt) : ∀ (l : List Pt) (a : Pt), fan o (a :: l) = shoe (a :: (l ++ [o])) + cross o a
  | [], a => by
    show (0 : Int) = cross a o + 0 + cross o a
    unfold cross
    grind
  | b :: l, a => by
    have ih := fan_shoe o l b
    show cross (sub a o) (sub b o) + fan o (b :: l) = cross a b + shoe (b :: (l ++ [o])) + cross o a
    rw [ih]
    have e : cross (sub a o) (sub b o) + cross o b = cross a b + cross o a := by
      unfold cross sub
      grind
    omega
theorem area_fan (o a : Pt) (l : List Pt) : fan o (a :: l) = shoe (steps (o :: a :: l)) := by
  have e : steps (o :: a :: l) = o :: a :: (l ++ [o]) := rfl
  rw [e, fan_shoe]
  show _ = cross o a + shoe (a :: (l ++ [o]))
  omega
theorem cross_edge (a b o : Pt) : cross (sub a o) (sub b o) = turn a b o := by
  unfold cross sub turn
  grind
theorem fan_ge {o : Pt} : ∀ {l : List Pt}, Ge o l → 0 ≤ fan o l
  | [], _ => Int.le_refl _
  | [_], _ => Int.le_refl _
  | a :: b :: r, h => by
    have ih := fan_ge (l := b :: r) h.2
    have := h.1
    show 0 ≤ cross (sub a o) (sub b o) + fan o (b :: r)
    rw [cross_edge]
    omega
theorem ge_init {o : Pt} : ∀ {l : List Pt} {x : Pt}, Ge o (l ++ [x]) → Ge o l
  | [], _, _ => True.intro
  | [_], _, _ => True.intro
  | a :: b :: r, x, h => ⟨h.1, ge_init (l := b :: r) h.2⟩
theorem area_pos {c : List Pt} (e : hull c = some c) : 0 < shoe (steps c) := by
  obtain ⟨m, R, hl, h3⟩ := ring_rows e
  obtain ⟨p1, p2, r, rfl⟩ : ∃ p1 p2 r, c = m :: p1 :: p2 :: r := by
    have hh := R.head
    match c, h3 with
    | a :: b :: d :: r, _ =>
      cases hh
      exact ⟨b, d, r, rfl⟩
  obtain ⟨l, x, y, el⟩ := last_two (c := m :: p1 :: p2 :: r) (by simp)
  have t := ring_T3 R rfl ⟨l, el⟩ h3
  have g := walk_ge (S := (· ∈ m :: p1 :: p2 :: r)) (q := m) (by simp) R.walk
  rw [← area_fan]
  have g2 : Ge m (p2 :: r) := by
    have : Ge m (p2 :: r ++ [m]) := g.2.2
    exact ge_init this
  have f := fan_ge g2
  show 0 < cross (sub p1 m) (sub p2 m) + fan m (p2 :: r)
  rw [cross_edge, ← turn_rot]
  have := t.2.1
  omega
/-! ### shifts -/
def mv (v p : Pt) : Pt := (p.1 + v.1, p.2 + v.2)
theorem turn_mv (v a b c : Pt) : turn (mv v a) (mv v b) (mv v c) = turn a b c := by
  unfold turn mv
  grind
theorem lt_mv {v a b : Pt} : lt (mv v a) (mv v b) ↔ lt a b := by
  unfold lt mv
  omega
theorem mv_inj {v a b : Pt} (h : mv v a = mv v b) : a = b := by
  obtain ⟨a1, a2⟩ := a
  obtain ⟨b1, b2⟩ := b
  unfold mv at h
  simp only [Prod.mk.injEq] at h ⊢
  omega
theorem le_mv {v a b : Pt} (h : le a b) : le (mv v a) (mv v b) := by
  rcases h with h | h
  · exact .inl (by rw [h])
  · exact .inr (lt_mv.mpr h)
theorem edge_mv {v a b q : Pt} (h : Edge a b q) : Edge (mv v a) (mv v b) (mv v q) := by
  unfold Edge at *
  rw [turn_mv]
  rcases h with h | ⟨h, h2⟩
  · exact .inl h
  · exact .inr ⟨h, h2.imp (fun k => ⟨le_mv k.1, le_mv k.2⟩) (fun k => ⟨le_mv k.1, le_mv k.2⟩)⟩
theorem walk_mv {v : Pt} {l c : List Pt} : ∀ {c : List Pt}, Walk (· ∈ l) c → Walk (· ∈ l.map (mv v)) (c.map (mv v))
  | [], _ => True.intro
  | [_], _ => True.intro
  | a :: b :: r, w => ⟨fun z => w.1 (mv_inj z), fun q hq => by
      obtain ⟨p, hp, rfl⟩ := List.mem_map.mp hq
      exact edge_mv (w.2.1 p hp), walk_mv (c := c) w.2.2⟩
theorem hull_mv {c : List Pt} (v : Pt) (e : hull c = some c) : hull (c.map (mv v)) = some (c.map (mv v)) := by
  obtain ⟨m, R, hl, h3⟩ := ring_rows e
  refine hull_ring (m := mv v m) ⟨?_, ?_, ?_, fun q hq => hq⟩ (fun q hq => ?_) (by rw [List.length_map]; exact h3)
  · rw [List.head?_map, R.head]
    rfl
  · have := walk_mv (v := v) (c := c) R.walk
    rw [List.map_append] at this
    exact this
  · exact List.Pairwise.map _ (fun a b h z => h (mv_inj z)) R.nd
  · obtain ⟨p, hp, rfl⟩ := List.mem_map.mp hq
    exact le_mv (hl p hp)
theorem shoe_mv (v : Pt) {c : List Pt} (h : 2 ≤ c.length) : shoe (steps (c.map (mv v))) = shoe (steps c) := by
  match c, h with
  | o :: a :: l, _ =>
    rw [← area_fan, show (o :: a :: l).map (mv v) = mv v o :: mv v a :: l.map (mv v) from rfl, ← area_fan]
    have e : ∀ l : List Pt, fan (mv v o) (l.map (mv v)) = fan o l := by
      intro l
      induction l with
      | nil => rfl
      | cons x l ih =>
        cases l with
        | nil => rfl
        | cons y l =>
          show cross (sub (mv v x) (mv v o)) (sub (mv v y) (mv v o)) + fan (mv v o) ((y :: l).map (mv v)) = cross (sub x o) (sub y o) + fan o (y :: l)
          rw [ih]
          congr 1
          unfold cross sub mv
          grind
    exact e (a :: l)
/-! ### the first of the greatest -/
def rowsN : Int → List Int → List (List Int)
  | _, [] => []
  | k, x :: r => [-x, k] :: rowsN (k + 1) r
def best : Int × Int → Int → List Int → Int × Int
  | b, _, [] => b
  | b, k, x :: r => if b.1 < x then best (x, k) (k + 1) r else best b (k + 1) r
theorem leR_two (a b c d : Int) : leR [a, b] [c, d] = decide (a < c ∨ (a = c ∧ b ≤ d)) := by
  unfold leR
  rw [decide_eq_decide, ← List.not_lt]
  simp only [List.cons_lt_cons_iff, List.not_lt_nil]
  constructor
  · intro h
    by_cases c1 : c < a
    · exact absurd (.inl c1) h
    · by_cases c2 : c = a
      · by_cases c3 : d < b
        · exact absurd (.inr ⟨c2, .inl c3⟩) h
        · omega
      · omega
  · rintro h (z | ⟨z1, z2 | ⟨z3, z4⟩⟩)
    · omega
    · omega
    · exact absurd z4 (by simp)
theorem minRow_best : ∀ (r : List Int) (b j k : Int), j ≤ k → minRow [-b, j] (rowsN k r) = [-(best (b, j) k r).1, (best (b, j) k r).2]
  | [], b, j, k, _ => rfl
  | x :: r, b, j, k, h => by
    have e : minRow [-b, j] (rowsN k (x :: r)) = minRow (if leR [-b, j] [-x, k] = true then [-b, j] else [-x, k]) (rowsN (k + 1) r) := rfl
    rw [e, leR_two]
    unfold best
    by_cases c : b < x
    · have c2 : decide (-b < -x ∨ (-b = -x ∧ j ≤ k)) = false := decide_eq_false (by omega)
      rw [c2, if_neg (by simp), if_pos c, minRow_best r x k (k + 1) (by omega)]
    · have c2 : decide (-b < -x ∨ (-b = -x ∧ j ≤ k)) = true := decide_eq_true (by omega)
      rw [c2, if_pos rfl, if_neg c, minRow_best r b j (k + 1) (by omega)]
theorem best_ok : ∀ (r pre : List Int) (b : Int) (j : Nat), pre[j]? = some b → (∀ x ∈ pre, x ≤ b) → (∀ i x, i < j → pre[i]? = some x → x < b) →
    ∃ (M : Int) (J : Nat), best (b, (j : Int)) (pre.length : Int) r = (M, (J : Int)) ∧ M = r.foldl max b ∧ (pre ++ r)[J]? = some M ∧ ∀ i x, i < J → (pre ++ r)[i]? = some x → x < M
  | [], pre, b, j, h1, h2, h3 => ⟨b, j, rfl, rfl, by rw [List.append_nil]; exact h1, by rw [List.append_nil]; exact h3⟩
  | x :: r, pre, b, j, h1, h2, h3 => by
    have hj : j < pre.length := (List.getElem?_eq_some_iff.mp h1).1
    unfold best
    by_cases c : b < x
    · rw [if_pos c]
      obtain ⟨M, J, e1, e2, e3, e4⟩ := best_ok r (pre ++ [x]) x pre.length (by simp) (fun y hy => by
        rcases List.mem_append.mp hy with hy | hy
        · have := h2 y hy
          omega
        · rw [List.mem_singleton.mp hy]
          exact Int.le_refl _) (fun i y hi hy => by
        rw [List.getElem?_append_left hi] at hy
        have := h2 y (List.mem_of_getElem? hy)
        omega)
      refine ⟨M, J, ?_, ?_, by simpa using e3, by simpa using e4⟩
      · rw [← e1]
        congr 1
        simp
      · rw [e2, List.foldl_cons]
        congr 1
        omega
    · rw [if_neg c]
      obtain ⟨M, J, e1, e2, e3, e4⟩ := best_ok r (pre ++ [x]) b j (by rw [List.getElem?_append_left hj]; exact h1) (fun y hy => by
        rcases List.mem_append.mp hy with hy | hy
        · exact h2 y hy
        · rw [List.mem_singleton.mp hy]
          omega) (fun i y hi hy => by
        rw [List.getElem?_append_left (by omega)] at hy
        exact h3 i y hi hy)
      refine ⟨M, J, ?_, ?_, by simpa using e3, by simpa using e4⟩
      · rw [← e1]
        congr 1
        simp
      · rw [e2, List.foldl_cons]
        congr 1
        omega
theorem idx_first {ns : List Int} {J : Nat} {M : Int} (h : ns[J]? = some M) (k : ∀ i x, i < J → ns[i]? = some x → x < M) : ns.idxOf M = J := by
  have h1 := idx_le h
  have hl : ns.idxOf M < ns.length := List.idxOf_lt_length_iff.mpr (List.mem_of_getElem? h)
  rcases Nat.lt_or_eq_of_le h1 with z | z
  · have := k (ns.idxOf M) M z (by rw [List.getElem?_eq_getElem hl]; simp)
    omega
  · exact z
/-- the least row tells the first of the greatest -/
theorem minRow_first (x : Int) (r : List Int) : minRow [-x, 0] (rowsN 1 r) = [-(r.foldl max x), (((x :: r).idxOf (r.foldl max x) : Nat) : Int)] ∧ (x :: r).idxOf (r.foldl max x) < (x :: r).length := by
  obtain ⟨M, J, e1, e2, e3, e4⟩ := best_ok r [x] x 0 rfl (by simp) (by simp)
  have e5 : best (x, 0) 1 r = (M, (J : Int)) := e1
  rw [minRow_best r x 0 1 (by decide), e5, ← e2, idx_first (ns := x :: r) e3 e4]
  exact ⟨rfl, (List.getElem?_eq_some_iff.mp e3).1⟩
end DL
/-! DHe: comprehensions over mapped items; pairs of neighbours. -/
namespace DL
open PySem PySem.Spec PyProof.Rows L2 LamX HullM
theorem compN_of {α : Type} (t : TM) (e : EM) (dw : Sl) (g f : α → PyData) : ∀ (l : List α) (acc : List PyData) (G : Ms), acc.length + l.length ≤ sizeLine → (∀ a ∈ l, ∀ H, ∃ ds, t (.d (g a)) dw H = some (ds, H) ∧ e ds H = .ok (.d (f a)) H) →
    compN t yesB e .pure dw (l.map g) acc G = .ok (acc ++ l.map f) G
  | [], acc, G, _, _ => by
    show compN t yesB e .pure dw [] acc G = _
    unfold compN
    rw [if_pos (show Src.pure.ok (G ++ [MO.lst acc]) from True.intro)]
    simp
  | a :: l, acc, G, hz, h => by
    obtain ⟨ds, h1, h2⟩ := h a (by simp) (G ++ [.lst acc])
    show compN t yesB e .pure dw (g a :: l.map g) acc G = _
    rw [List.length_cons] at hz
    rw [compN, if_pos (show Src.pure.ok (G ++ [MO.lst acc]) from True.intro), h1]
    simp only
    rw [h2]
    simp only
    rw [if_pos (by omega), back_self]
    simp only
    rw [compN_of t e dw g f l (acc ++ [f a]) G (by rw [List.length_append]; simp; omega) fun b hb => h b (by simp [hb])]
    simp
theorem zlcE_ok {i : Nat} {vs : List Nat} {m : AM} {t : TM} {c : BM} {e : EM} {ds : Sl} {G G1 G2 : Ms} {ws : List DV} {items acc : List PyData} (h1 : m ds G = .ok ws G1) (hi : i < ds.length) (h2 : zipF ws G1 = some ((items, .pure), G1)) (h3 : compN t c e .pure (wipeD (ds.set i none) vs) items [] G1 = .ok acc G2) :
    zlcE i vs m t c e ds G = .ok (.d (.list acc)) G2 := by
  unfold zlcE
  rw [h1, ER.bind_ok, if_pos hi, h2, liftO_some, ER.bind_ok]
  simp only
  rw [h3, ER.bind_ok]
  rfl
/-- neighbours -/
def stepP : List Pt → List (Pt × Pt)
  | a :: b :: r => (a, b) :: stepP (b :: r)
  | _ => []
def nbrD (p : Pt × Pt) : PyData := .tuple [ptD p.1, ptD p.2]
theorem zip_steps : ∀ (c : List Pt) (a x : Pt), zipD (ptsD (a :: c)) (ptsD (c ++ [x])) = (stepP (a :: (c ++ [x]))).map nbrD
  | [], a, x => rfl
  | b :: c, a, x => by
    have ih := zip_steps c b x
    show PyData.tuple [ptD a, ptD b] :: zipD (ptsD (b :: c)) (ptsD (c ++ [x])) = _
    rw [ih]
    rfl
theorem zip_next : ∀ (c : List Pt) (a : Pt), zipD (ptsD (a :: c)) (ptsD c) = (stepP (a :: c)).map nbrD
  | [], a => rfl
  | b :: c, a => by
    have ih := zip_next c b
    show PyData.tuple [ptD a, ptD b] :: zipD (ptsD (b :: c)) (ptsD c) = _
    rw [ih]
    rfl
theorem stepP_len : ∀ l : List Pt, (stepP l).length = l.length - 1
  | [] => rfl
  | [_] => rfl
  | a :: b :: r => by
    rw [stepP, List.length_cons, stepP_len (b :: r)]
    simp
theorem stepP_mem : ∀ {l : List Pt} {p : Pt × Pt}, p ∈ stepP l → p.1 ∈ l ∧ p.2 ∈ l
  | [], _, h => by cases h
  | [_], _, h => by cases h
  | a :: b :: r, p, h => by
    rcases List.mem_cons.mp h with rfl | h
    · simp
    · have := stepP_mem (l := b :: r) h
      exact ⟨List.mem_cons_of_mem _ this.1, List.mem_cons_of_mem _ this.2⟩
theorem shoe_sum : ∀ l : List Pt, ((stepP l).map fun p => cross p.1 p.2).sum = shoe l
  | [] => rfl
  | [_] => rfl
  | a :: b :: r => by
    show cross a b + ((stepP (b :: r)).map fun p => cross p.1 p.2).sum = _
    rw [shoe_sum (b :: r)]
    rfl
theorem fan_sum (o : Pt) : ∀ l : List Pt, ((stepP l).map fun p => cross (sub p.1 o) (sub p.2 o)).sum = fan o l
  | [] => rfl
  | [_] => rfl
  | a :: b :: r => by
    show cross (sub a o) (sub b o) + ((stepP (b :: r)).map fun p => cross (sub p.1 o) (sub p.2 o)).sum = _
    rw [fan_sum o (b :: r)]
    rfl
theorem ge_all (q : Pt) : ∀ l : List Pt, ((stepP l).map fun p => decide (0 ≤ turn p.1 p.2 q)).all id = true ↔ Ge q l
  | [] => by simp [stepP, Ge]
  | [_] => by simp [stepP, Ge]
  | a :: b :: r => by
    have ih := ge_all q (b :: r)
    show (decide (0 ≤ turn a b q) && ((stepP (b :: r)).map fun p => decide (0 ≤ turn p.1 p.2 q)).all id) = true ↔ _
    rw [Bool.and_eq_true, ih, decide_eq_true_eq]
    rfl
theorem steps_mem {c : List Pt} {p : Pt} (h : p ∈ steps c) : p ∈ c := by
  rcases List.mem_append.mp h with h | h
  · exact h
  · exact List.mem_of_mem_take h
theorem steps_len {c : List Pt} (h : 1 ≤ c.length) : (steps c).length = c.length + 1 := by
  unfold steps
  rw [List.length_append, List.length_take]
  omega
end DL
namespace K02
open PySem PySem.Spec PyProof.Rows L2 LamX DL
def top (i : Nat) : Stmt := PySem.Challenge.pw_gripsure_k02_sides_areas_and_points_with.main.body.getD i (.Pass ⟨0, 0, 0, 0⟩)
abbrev s_is_number : Stmt := top 7
theorem sc_is_number : FnScope (["thing"] : List Str) (["thing"] : List Str) (defScope s_is_number) := ⟨rfl, rfl, rfl, by decide +kernel, rfl, by decide +kernel, by decide +kernel⟩
abbrev s_is_sized : Stmt := top 8
theorem sc_is_sized : FnScope (["thing", "many"] : List Str) (["thing", "many"] : List Str) (defScope s_is_sized) := ⟨rfl, rfl, rfl, by decide +kernel, rfl, by decide +kernel, by decide +kernel⟩
abbrev s_is_couple : Stmt := top 10
theorem sc_is_couple : FnScope (["thing"] : List Str) (["thing"] : List Str) (defScope s_is_couple) := ⟨rfl, rfl, rfl, by decide +kernel, rfl, by decide +kernel, by decide +kernel⟩
abbrev s_is_tuple_of : Stmt := top 9
theorem sc_is_tuple_of : FnScope (["thing", "is_one", "one"] : List Str) (["thing", "is_one"] : List Str) (defScope s_is_tuple_of) := ⟨rfl, rfl, rfl, by decide +kernel, rfl, by decide +kernel, by decide +kernel⟩
abbrev s_is_corners : Stmt := top 11
theorem sc_is_corners : FnScope (["thing"] : List Str) (["thing"] : List Str) (defScope s_is_corners) := ⟨rfl, rfl, rfl, by decide +kernel, rfl, by decide +kernel, by decide +kernel⟩
abbrev s_turn_of : Stmt := top 15
theorem sc_turn_of : FnScope (["one", "two", "three"] : List Str) (["one", "two", "three"] : List Str) (defScope s_turn_of) := ⟨rfl, rfl, rfl, by decide +kernel, rfl, by decide +kernel, by decide +kernel⟩
abbrev s_chain : Stmt := top 16
theorem sc_chain : FnScope (["points", "found", "point"] : List Str) (["points"] : List Str) (defScope s_chain) := ⟨rfl, rfl, rfl, by decide +kernel, rfl, by decide +kernel, by decide +kernel⟩
abbrev s_hull_of : Stmt := top 17
theorem sc_hull_of : FnScope (["points", "rows", "low", "high", "found", "point"] : List Str) (["points"] : List Str) (defScope s_hull_of) := ⟨rfl, rfl, rfl, by decide +kernel, rfl, by decide +kernel, by decide +kernel⟩
abbrev s_is_hull : Stmt := top 19
theorem sc_is_hull : FnScope (["corners"] : List Str) (["corners"] : List Str) (defScope s_is_hull) := ⟨rfl, rfl, rfl, by decide +kernel, rfl, by decide +kernel, by decide +kernel⟩
abbrev s_checked_part : Stmt := top 18
theorem sc_checked_part : FnScope (["thing", "number", "x", "y"] : List Str) (["thing"] : List Str) (defScope s_checked_part) := ⟨rfl, rfl, rfl, by decide +kernel, rfl, by decide +kernel, by decide +kernel⟩
abbrev s_sides_of : Stmt := top 20
theorem sc_sides_of : FnScope (["part", "rows", "one", "other"] : List Str) (["part"] : List Str) (defScope s_sides_of) := ⟨rfl, rfl, rfl, by decide +kernel, rfl, by decide +kernel, by decide +kernel⟩
abbrev s_double_area : Stmt := top 21
theorem sc_double_area : FnScope (["part", "rows", "one", "other"] : List Str) (["part"] : List Str) (defScope s_double_area) := ⟨rfl, rfl, rfl, by decide +kernel, rfl, by decide +kernel, by decide +kernel⟩
abbrev s_is_within : Stmt := top 22
theorem sc_is_within : FnScope (["part", "point", "rows", "one", "other"] : List Str) (["part", "point"] : List Str) (defScope s_is_within) := ⟨rfl, rfl, rfl, by decide +kernel, rfl, by decide +kernel, by decide +kernel⟩
abbrev s_shifted : Stmt := top 23
theorem sc_shifted : FnScope (["part", "by", "x", "y"] : List Str) (["part", "by"] : List Str) (defScope s_shifted) := ⟨rfl, rfl, rfl, by decide +kernel, rfl, by decide +kernel, by decide +kernel⟩
abbrev s_frame_of : Stmt := top 24
theorem sc_frame_of : FnScope (["part", "across", "along", "x", "y"] : List Str) (["part"] : List Str) (defScope s_frame_of) := ⟨rfl, rfl, rfl, by decide +kernel, rfl, by decide +kernel, by decide +kernel⟩
abbrev s_first_on_left : Stmt := top 25
theorem sc_first_on_left : FnScope (["part", "way", "rows", "number", "x", "y"] : List Str) (["part", "way"] : List Str) (defScope s_first_on_left) := ⟨rfl, rfl, rfl, by decide +kernel, rfl, by decide +kernel, by decide +kernel⟩
abbrev s_far_along : Stmt := top 26
theorem sc_far_along : FnScope (["part", "way", "rows", "x", "y"] : List Str) (["part", "way"] : List Str) (defScope s_far_along) := ⟨rfl, rfl, rfl, by decide +kernel, rfl, by decide +kernel, by decide +kernel⟩
abbrev s__law_bag : Stmt := top 28
theorem sc__law_bag : FnScope (["script", "cell"] : List Str) (["script"] : List Str) (defScope s__law_bag) := ⟨rfl, rfl, rfl, by decide +kernel, rfl, by decide +kernel, by decide +kernel⟩
abbrev s__law_take : Stmt := top 29
theorem sc__law_take : FnScope (["bag", "many", "cell", "stirred", "value", "begin", "second"] : List Str) (["bag", "many"] : List Str) (defScope s__law_take) := ⟨rfl, rfl, rfl, by decide +kernel, rfl, by decide +kernel, by decide +kernel⟩
abbrev s__law_some : Stmt := top 30
theorem sc__law_some : FnScope (["bag", "things"] : List Str) (["bag", "things"] : List Str) (defScope s__law_some) := ⟨rfl, rfl, rfl, by decide +kernel, rfl, by decide +kernel, by decide +kernel⟩
abbrev s__law_alike : Stmt := top 31
theorem sc__law_alike : FnScope (["found", "due"] : List Str) (["found", "due"] : List Str) (defScope s__law_alike) := ⟨rfl, rfl, rfl, by decide +kernel, rfl, by decide +kernel, by decide +kernel⟩
abbrev s__law_gcd : Stmt := top 32
theorem sc__law_gcd : FnScope (["a", "b", "turn"] : List Str) (["a", "b"] : List Str) (defScope s__law_gcd) := ⟨rfl, rfl, rfl, by decide +kernel, rfl, by decide +kernel, by decide +kernel⟩
abbrev s__law_cross : Stmt := top 33
theorem sc__law_cross : FnScope (["one", "other"] : List Str) (["one", "other"] : List Str) (defScope s__law_cross) := ⟨rfl, rfl, rfl, by decide +kernel, rfl, by decide +kernel, by decide +kernel⟩
abbrev s__law_hull : Stmt := top 34
theorem sc__law_hull : FnScope (["spots", "rows", "here", "found", "turn", "goal", "spot", "one", "other", "side", "far"] : List Str) (["spots"] : List Str) (defScope s__law_hull) := ⟨rfl, rfl, rfl, by decide +kernel, rfl, by decide +kernel, by decide +kernel⟩
abbrev s__law_part : Stmt := top 35
theorem sc__law_part : FnScope (["bag", "most", "way", "a", "b", "spots", "turn", "found", "k", "x", "y"] : List Str) (["bag", "most"] : List Str) (defScope s__law_part) := ⟨rfl, rfl, rfl, by decide +kernel, rfl, by decide +kernel, by decide +kernel⟩
abbrev s_law : Stmt := top 37
theorem sc_law : FnScope (["script", "bag", "lap", "part", "sides", "x", "y", "area", "one", "other", "xs", "ys", "some", "k", "side", "many", "step", "spot", "larger", "way", "rows", "lefts", "by", "moved", "far", "corner", "a", "b"] : List Str) (["script"] : List Str) (defScope s_law) := ⟨rfl, rfl, rfl, by decide +kernel, rfl, by decide +kernel, by decide +kernel⟩
abbrev s__law_raised : Stmt := top 36
theorem sc__law_raised : FnScope (["act", "error"] : List Str) (["act"] : List Str) (defScope s__law_raised) := ⟨rfl, rfl, rfl, by decide +kernel, rfl, by decide +kernel, by decide +kernel⟩
def mt_Nothing (n : Str) : Option Bool := if n = "Nothing" then some true else if n = "BadPart" ∨ n = "TooLarge" then some false else none
def mt_BadPart (n : Str) : Option Bool := if n = "BadPart" then some true else if n = "Nothing" ∨ n = "TooLarge" then some false else none
structure Ad where
  is_number : Addr
  is_sized : Addr
  is_couple : Addr
  is_tuple_of : Addr
  is_corners : Addr
  turn_of : Addr
  chain : Addr
  hull_of : Addr
  is_hull : Addr
  checked_part : Addr
  sides_of : Addr
  double_area : Addr
  is_within : Addr
  shifted : Addr
  frame_of : Addr
  first_on_left : Addr
  far_along : Addr
  _law_bag : Addr
  _law_take : Addr
  _law_some : Addr
  _law_alike : Addr
  _law_gcd : Addr
  _law_cross : Addr
  _law_hull : Addr
  _law_part : Addr
  law : Addr
  _law_raised : Addr
  Nothing : Addr
  BadPart : Addr
  c_law : Addr
  tab : Addr
structure Tx (K : PySem.W.Frag) (mg : MgT) (ad : Ad) : Prop where
  n_abs : mg "abs" = none
  n_all : mg "all" = none
  n_bool : mg "bool" = none
  n_enumerate : mg "enumerate" = none
  n_int : mg "int" = none
  n_isinstance : mg "isinstance" = none
  n_len : mg "len" = none
  n_list : mg "list" = none
  n_max : mg "max" = none
  n_min : mg "min" = none
  n_range : mg "range" = none
  n_repr : mg "repr" = none
  n_set : mg "set" = none
  n_sorted : mg "sorted" = none
  n_sum : mg "sum" = none
  n_tuple : mg "tuple" = none
  n_zip : mg "zip" = none
  m_MOST_CORNERS : ∃ t, mg "MOST_CORNERS" = some (.int 10 t)
  m_MOST_FAR : ∃ t, mg "MOST_FAR" = some (.int 99 t)
  f_is_number : DefAt K mg "is_number" s_is_number ["thing"] ad.is_number
  f_is_sized : DefAt K mg "is_sized" s_is_sized ["thing", "many"] ad.is_sized
  f_is_couple : DefAt K mg "is_couple" s_is_couple ["thing"] ad.is_couple
  f_is_tuple_of : DefAt K mg "is_tuple_of" s_is_tuple_of ["thing", "is_one"] ad.is_tuple_of
  f_is_corners : DefAt K mg "is_corners" s_is_corners ["thing"] ad.is_corners
  f_turn_of : DefAt K mg "turn_of" s_turn_of ["one", "two", "three"] ad.turn_of
  f_chain : DefAt K mg "chain" s_chain ["points"] ad.chain
  f_hull_of : DefAt K mg "hull_of" s_hull_of ["points"] ad.hull_of
  f_is_hull : DefAt K mg "is_hull" s_is_hull ["corners"] ad.is_hull
  f_checked_part : DefAt K mg "checked_part" s_checked_part ["thing"] ad.checked_part
  f_sides_of : DefAt K mg "sides_of" s_sides_of ["part"] ad.sides_of
  f_double_area : DefAt K mg "double_area" s_double_area ["part"] ad.double_area
  f_is_within : DefAt K mg "is_within" s_is_within ["part", "point"] ad.is_within
  f_shifted : DefAt K mg "shifted" s_shifted ["part", "by"] ad.shifted
  f_frame_of : DefAt K mg "frame_of" s_frame_of ["part"] ad.frame_of
  f_first_on_left : DefAt K mg "first_on_left" s_first_on_left ["part", "way"] ad.first_on_left
  f_far_along : DefAt K mg "far_along" s_far_along ["part", "way"] ad.far_along
  f__law_bag : DefAt K mg "_law_bag" s__law_bag ["script"] ad._law_bag
  f__law_take : DefAt K mg "_law_take" s__law_take ["bag", "many"] ad._law_take
  f__law_some : DefAt K mg "_law_some" s__law_some ["bag", "things"] ad._law_some
  f__law_alike : DefAt K mg "_law_alike" s__law_alike ["found", "due"] ad._law_alike
  f__law_gcd : DefAt K mg "_law_gcd" s__law_gcd ["a", "b"] ad._law_gcd
  f__law_cross : DefAt K mg "_law_cross" s__law_cross ["one", "other"] ad._law_cross
  f__law_hull : DefAt K mg "_law_hull" s__law_hull ["spots"] ad._law_hull
  f__law_part : DefAt K mg "_law_part" s__law_part ["bag", "most"] ad._law_part
  f_law : DefC K mg "law" s_law ["script"] ad.law (.ref ad.c_law)
  f__law_raised : DefAt K mg "_law_raised" s__law_raised ["act"] ad._law_raised
  x_Nothing : Exc0 K mg "Nothing"
  k_Nothing : mg "Nothing" = some (.ref ad.Nothing)
  t_Nothing : Mts K mg (.ref ad.Nothing) mt_Nothing
  k_BadPart : mg "BadPart" = some (.ref ad.BadPart)
  t_BadPart : Mts K mg (.ref ad.BadPart) mt_BadPart
  xf_BadPart : XfC K ad.BadPart
  g_BadPart_fault : PySem.W.findIn K (.ref ad.BadPart) "fault" = some none
  g_BadPart_number : PySem.W.findIn K (.ref ad.BadPart) "number" = some none
def h__law_raised : List HM := (.tell mt_BadPart 1 "BadPart" "part" "number" "fault" :: [])
section
variable {P : Program} {w : World} {K : PySem.W.Frag} {mg : MgT} {base : Heap} {T : List (Addr × Str)} {ad : Ad}
/-! ### is_number -/
noncomputable def b_is_number : SM :=
    (retS (andE (unE (isiF "int") (varE 0)) (notE (unE (isiF "bool") (varE 0)))))
theorem t_is_number (Z : Tx K mg ad) : Cal P w K mg base T 2 "is_number" ["thing"] (defW cutM 1 (b_is_number)) :=
  cal_of cutM_ok Z.f_is_number sc_is_number fun cdv A outer s H E W hr tk hp =>
    (s_one (s_ret (d_and (d_isi (C := "int") rfl Z.n_isinstance rfl Z.n_int (by first | rfl | decide +kernel) (d_var (i := 0) rfl (.inl rfl))) (d_one (d_not (d_isi (C := "bool") rfl Z.n_isinstance rfl Z.n_bool (by first | rfl | decide +kernel) (d_var (i := 0) rfl (.inl rfl))))))))
/-! ### is_sized -/
noncomputable def b_is_sized : SM :=
    (retS (andE (unE (isiF "tuple") (varE 0)) (binE (eqF false) (callE lenF (consA (varE 0) nilA)) (varE 1))))
theorem t_is_sized (Z : Tx K mg ad) : Cal P w K mg base T 2 "is_sized" ["thing", "many"] (defW cutM 2 (b_is_sized)) :=
  cal_of cutM_ok Z.f_is_sized sc_is_sized fun cdv A outer s H E W hr tk hp =>
    (s_one (s_ret (d_and (d_isi (C := "tuple") rfl Z.n_isinstance rfl Z.n_tuple (by first | rfl | decide +kernel) (d_var (i := 0) rfl (.inl rfl))) (d_one (d_cmp (o_eq (hu_eq hr)) (d_callB c_len rfl Z.n_len (by first | rfl | decide +kernel) (d_cons (d_var (i := 0) rfl (.inl rfl)) d_nil)) (d_var (i := 1) rfl (.inl rfl)) rfl)))))
/-! ### is_couple -/
noncomputable def b_is_couple (F_is_sized : FM) (F_is_number : FM) : SM :=
    (retS (andE (fnE F_is_sized (consA (varE 0) (consA (kE (.int 2)) nilA))) (andE (fnE F_is_number (consA (binE ixF (varE 0) (kE (.int 0))) nilA)) (fnE F_is_number (consA (binE ixF (varE 0) (kE (.int 1))) nilA)))))
theorem t_is_couple {F_is_sized : FM} {F_is_number : FM} (Z : Tx K mg ad) (c_is_sized : Cal P w K mg base T 2 "is_sized" ["thing", "many"] F_is_sized) (c_is_number : Cal P w K mg base T 2 "is_number" ["thing"] F_is_number) : Cal P w K mg base T 3 "is_couple" ["thing"] (defW cutM 1 (b_is_couple F_is_sized F_is_number)) :=
  cal_of cutM_ok Z.f_is_couple sc_is_couple fun cdv A outer s H E W hr tk hp =>
    (s_one (s_ret (d_and (d_callC c_is_sized tk hr (by decide) rfl (d_cons (d_var (i := 0) rfl (.inl rfl)) (d_cons d_int d_nil)) (lenA_cons (lenA_cons lenA_nil))) (d_and (d_callC c_is_number tk hr (by decide) rfl (d_cons (d_ix x_ix (d_var (i := 0) rfl (.inl rfl)) d_int (fun _ _ => rfl)) d_nil) (lenA_cons lenA_nil)) (d_one (d_callC c_is_number tk hr (by decide) rfl (d_cons (d_ix x_ix (d_var (i := 0) rfl (.inl rfl)) d_int (fun _ _ => rfl)) d_nil) (lenA_cons lenA_nil)))))))
/-! ### is_tuple_of -/
noncomputable def b_is_tuple_of_e0 (ad : Ad) (F_is_couple : FM) (ds : Sl) (G : Ms) : ER DV :=
    (callLE 1 ad.is_couple F_is_couple (consA (varE 2) nilA)) ds G
noncomputable def b_is_tuple_of (ad : Ad) (F_is_couple : FM) : SM :=
    (retS (andE (unE (isiF "tuple") (varE 0)) (callE allF (consA (lcE true [2] (iterE tupI (varE 0)) (nameT 2) yesB (b_is_tuple_of_e0 ad F_is_couple)) nilA))))
theorem t_is_tuple_of {F_is_couple : FM} (Z : Tx K mg ad) (c_is_couple : Cal P w K mg base T 3 "is_couple" ["thing"] F_is_couple) : Cal P w K mg base T 4 "is_tuple_of" ["thing", "is_one"] (defW cutM 3 (b_is_tuple_of ad F_is_couple)) :=
  cal_of cutM_ok Z.f_is_tuple_of sc_is_tuple_of fun cdv A outer s H E W hr tk hp =>
    (s_one (s_ret (d_and (d_isi (C := "tuple") rfl Z.n_isinstance rfl Z.n_tuple (by first | rfl | decide +kernel) (d_var (i := 0) rfl (.inl rfl))) (d_one (d_callB (c_all rfl) rfl Z.n_all (by first | rfl | decide +kernel) (d_cons (d_lc (fz := true) (own := [("one", 2)]) rfl sc_is_tuple_of.nd (i_tup (d_var (i := 0) rfl (.inl rfl))) (blkOk_by (N := ["thing", "is_one", "one"]) (sc := (defScope s_is_tuple_of)) (by decide +kernel)) (fun s H C cl fp => (pg_name (i := 2) sc_is_tuple_of.nd rfl (.inl rfl))) (c_name (by decide)) (fun s H C cl fp => pts_yes) (fun s H C cl fp => (d_callLC c_is_couple Z.f_is_couple.mgf LamX.takes0 hr (by decide) rfl (.inr (.inl rfl)) (d_cons (d_var (i := 2) rfl (.inl rfl)) d_nil) (lenA_cons lenA_nil)))) d_nil))))))
/-! ### is_corners -/
noncomputable def b_is_corners (ad : Ad) (F_is_tuple_of : FM) : SM :=
    (retS (fnE F_is_tuple_of (consA (varE 0) (consA (cE (.fn ad.is_couple)) nilA))))
theorem t_is_corners {F_is_tuple_of : FM} (Z : Tx K mg ad) (c_is_tuple_of : Cal P w K mg base T 4 "is_tuple_of" ["thing", "is_one"] F_is_tuple_of) : Cal P w K mg base T 5 "is_corners" ["thing"] (defW cutM 1 (b_is_corners ad F_is_tuple_of)) :=
  cal_of cutM_ok Z.f_is_corners sc_is_corners fun cdv A outer s H E W hr tk hp =>
    (s_one (s_ret (d_callC c_is_tuple_of tk hr (by decide) rfl (d_cons (d_var (i := 0) rfl (.inl rfl)) (d_cons (d_glob (y := .ref ad.is_couple) rfl Z.f_is_couple.mgf rfl fun _ _ => rfl) d_nil)) (lenA_cons (lenA_cons lenA_nil)))))
/-! ### turn_of -/
noncomputable def b_turn_of : SM :=
    (retS (binE subF (binE mulF (binE subF (binE ixF (varE 1) (kE (.int 0))) (binE ixF (varE 0) (kE (.int 0)))) (binE subF (binE ixF (varE 2) (kE (.int 1))) (binE ixF (varE 1) (kE (.int 1))))) (binE mulF (binE subF (binE ixF (varE 1) (kE (.int 1))) (binE ixF (varE 0) (kE (.int 1)))) (binE subF (binE ixF (varE 2) (kE (.int 0))) (binE ixF (varE 1) (kE (.int 0)))))))
theorem t_turn_of (Z : Tx K mg ad) : Cal P w K mg base T 2 "turn_of" ["one", "two", "three"] (defW cutM 3 (b_turn_of)) :=
  cal_of cutM_ok Z.f_turn_of sc_turn_of fun cdv A outer s H E W hr tk hp =>
    (s_one (s_ret (d_bin o_sub (d_bin o_mul (d_bin o_sub (d_ix x_ix (d_var (i := 1) rfl (.inl rfl)) d_int (fun _ _ => rfl)) (d_ix x_ix (d_var (i := 0) rfl (.inl rfl)) d_int (fun _ _ => rfl))) (d_bin o_sub (d_ix x_ix (d_var (i := 2) rfl (.inl rfl)) d_int (fun _ _ => rfl)) (d_ix x_ix (d_var (i := 1) rfl (.inl rfl)) d_int (fun _ _ => rfl)))) (d_bin o_mul (d_bin o_sub (d_ix x_ix (d_var (i := 1) rfl (.inl rfl)) d_int (fun _ _ => rfl)) (d_ix x_ix (d_var (i := 0) rfl (.inl rfl)) d_int (fun _ _ => rfl))) (d_bin o_sub (d_ix x_ix (d_var (i := 2) rfl (.inl rfl)) d_int (fun _ _ => rfl)) (d_ix x_ix (d_var (i := 1) rfl (.inl rfl)) d_int (fun _ _ => rfl)))))))
/-! ### chain -/
noncomputable def b_chain_t0 (F_turn_of : FM) (fu1 : Sl → Ms → Nat) (ds : Sl) (G : Ms) : ER Bool :=
    (andB (valB (binE gtF (callE lenF (consA (varE 1) nilA)) (kE (.int 1)))) (valB (binE leF (fnE F_turn_of (consA (binE ixF (varE 1) (unE negF (kE (.int 2)))) (consA (binE ixF (varE 1) (unE negF (kE (.int 1)))) (consA (varE 2) nilA)))) (kE (.int 0))))) ds G
noncomputable def b_chain_w1 (F_turn_of : FM) (fu1 : Sl → Ms → Nat) (ds : Sl) (G : Ms) : SR :=
    (dropS (methL0 popF (varE 1))) ds G
noncomputable def b_chain_f2 (F_turn_of : FM) (fu1 : Sl → Ms → Nat) (ds : Sl) (G : Ms) : SR :=
    (seqS (whileS fu1 (b_chain_t0 F_turn_of fu1) (b_chain_w1 F_turn_of fu1))
      (dropS (methL appendF (varE 1) (consA (varE 2) nilA)))) ds G
noncomputable def b_chain (F_turn_of : FM) (fu1 : Sl → Ms → Nat) : SM :=
    (seqS (asgS (callE (listF false) nilA) (nameT 1))
    (seqS (forS (iterE seqI (varE 0)) (nameT 2) (b_chain_f2 F_turn_of fu1))
    (retS (varE 1))))
theorem t_chain {F_turn_of : FM} {fu1 : Sl → Ms → Nat} (Z : Tx K mg ad) (c_turn_of : Cal P w K mg base T 2 "turn_of" ["one", "two", "three"] F_turn_of) : Cal P w K mg base T 3 "chain" ["points"] (defW cutM 3 (b_chain F_turn_of fu1)) :=
  cal_of cutM_ok Z.f_chain sc_chain fun cdv A outer s H E W hr tk hp =>
    (s_cons (s_set (i := 1) sc_chain.nd rfl (.inl rfl) (d_list (fz := false) d_nil))
    (s_cons (s_for hp rfl (i_list (d_var (i := 0) rfl (.inl rfl))) (g_name (i := 2) sc_chain.nd rfl (.inl rfl))
    (s_cons (s_while (fuel := fu1) hp (PW.pt (d_tandW (d_tcmp o_gt (d_callB c_len rfl Z.n_len (by first | rfl | decide +kernel) (d_cons (d_var (i := 1) rfl (.inl rfl)) d_nil)) d_int rfl) (d_tand1 (d_tcmp o_le (d_callC c_turn_of tk hr (by decide) rfl (d_cons (d_ix x_ix (d_var (i := 1) rfl (.inl rfl)) (d_un u_neg d_int) (fun _ _ => rfl)) (d_cons (d_ix x_ix (d_var (i := 1) rfl (.inl rfl)) (d_un u_neg d_int) (fun _ _ => rfl)) (d_cons (d_var (i := 2) rfl (.inl rfl)) d_nil))) (lenA_cons (lenA_cons (lenA_cons lenA_nil)))) d_int rfl)))) (s_one (s_expr (d_meth0 PySem.F.slot_list_pop PySem.F.type_list_pop m_pop (d_var (i := 1) rfl (.inl rfl))))))
      (s_one (s_expr (d_meth PySem.F.slot_list_append PySem.F.type_list_append m_append (d_var (i := 1) rfl (.inl rfl)) (d_cons (d_var (i := 2) rfl (.inl rfl)) d_nil))))))
    (s_one (s_ret (d_var (i := 1) rfl (.inl rfl))))))
/-! ### hull_of -/
noncomputable def b_hull_of (F_chain : FM) : SM :=
    (seqS (asgS (srtDctE true [5] (iterE anyI (varE 0)) (nameT 5) (varE 5) (kE (.bool true))) (nameT 1))
    (seqS (ifS (valB (binE ltF (callE lenF (consA (varE 1) nilA)) (kE (.int 3)))) (raise0S "Nothing") skipS)
    (seqS (parS 2 3 (fnE F_chain (consA (varE 1) nilA)) (fnE F_chain (consA (unE (revF true) (varE 1)) nilA)))
    (seqS (asgS (callE tupF (starA (sliceE true (varE 2) noO (theO (unE negF (kE (.int 1))))) (starA (sliceE true (varE 3) noO (theO (unE negF (kE (.int 1))))) nilA))) (nameT 4))
    (seqS (ifS (valB (binE ltF (callE lenF (consA (varE 4) nilA)) (kE (.int 3)))) (raise0S "Nothing") skipS)
    (retS (varE 4)))))))
theorem t_hull_of {F_chain : FM} (Z : Tx K mg ad) (c_chain : Cal P w K mg base T 3 "chain" ["points"] F_chain) : Cal P w K mg base T 4 "hull_of" ["points"] (defW cutM 6 (b_hull_of F_chain)) :=
  cal_of cutM_ok Z.f_hull_of sc_hull_of fun cdv A outer s H E W hr tk hp =>
    (s_cons (s_set (i := 1) sc_hull_of.nd rfl (.inl rfl) (d_srtDct (fz := true) (own := [("point", 5)]) rfl (hu_64 hr) sc_hull_of.nd rfl Z.n_sorted (i_any (d_var (i := 0) rfl (.inl rfl))) (blkOk_by (N := ["points", "rows", "low", "high", "found", "point"]) (sc := (defScope s_hull_of)) (by decide +kernel)) (fun s H C cl fp => (pg_name (i := 5) sc_hull_of.nd rfl (.inl rfl))) (c_name (by decide)) (fun s H C cl fp => (d_var (i := 5) rfl (.inl rfl))) (fun s H C cl fp => d_bool)))
    (s_cons (s_if (d_tcmp o_lt (d_callB c_len rfl Z.n_len (by first | rfl | decide +kernel) (d_cons (d_var (i := 1) rfl (.inl rfl)) d_nil)) d_int rfl) (s_one (s_raiseC0 rfl tk Z.x_Nothing rfl)) s_nil)
    (s_cons (s_par (i := 2) (j := 3) rfl sc_hull_of.nd rfl rfl (by decide) rfl rfl (d_callC c_chain tk hr (by decide) rfl (d_cons (d_var (i := 1) rfl (.inl rfl)) d_nil) (lenA_cons lenA_nil)) (d_callC c_chain tk hr (by decide) rfl (d_cons (d_revL (fz := true) (d_var (i := 1) rfl (.inl rfl))) d_nil) (lenA_cons lenA_nil)) (by first | rfl | decide +kernel))
    (s_cons (s_set (i := 4) sc_hull_of.nd rfl (.inl rfl) (d_tup (d_star (d_slice (fz := true) (d_var (i := 2) rfl (.inl rfl)) p_none (p_some (d_un u_neg d_int))) (d_star (d_slice (fz := true) (d_var (i := 3) rfl (.inl rfl)) p_none (p_some (d_un u_neg d_int))) d_nil))))
    (s_cons (s_if (d_tcmp o_lt (d_callB c_len rfl Z.n_len (by first | rfl | decide +kernel) (d_cons (d_var (i := 4) rfl (.inl rfl)) d_nil)) d_int rfl) (s_one (s_raiseC0 rfl tk Z.x_Nothing rfl)) s_nil)
    (s_one (s_ret (d_var (i := 4) rfl (.inl rfl)))))))))
/-! ### is_hull -/
noncomputable def b_is_hull (F_hull_of : FM) : SM :=
    (tryS (retS (binE (eqF false) (fnE F_hull_of (consA (varE 0) nilA)) (varE 0))) (.plain mt_Nothing (retS (kE (.bool false))) :: []))
theorem t_is_hull {F_hull_of : FM} (Z : Tx K mg ad) (c_hull_of : Cal P w K mg base T 4 "hull_of" ["points"] F_hull_of) : Cal P w K mg base T 5 "is_hull" ["corners"] (defW cutM 1 (b_is_hull F_hull_of)) :=
  cal_of cutM_ok Z.f_is_hull sc_is_hull fun cdv A outer s H E W hr tk hp =>
    (s_one (s_try rfl rfl sc_is_hull.nd tk (fun W2 pn xe tk2 hp2 => (s_one (s_ret (d_cmp (o_eq (hu_eq hr)) (d_callC c_hull_of tk2 hr (by decide) rfl (d_cons (d_var (i := 0) rfl (.inl rfl)) d_nil) (lenA_cons lenA_nil)) (d_var (i := 0) rfl (.inl rfl)) rfl)))) (.plain (names_of rfl Z.k_Nothing) Z.t_Nothing (fun a oe pn => (s_one (s_ret d_bool))) .nil)))
/-! ### checked_part -/
noncomputable def b_checked_part_f0 (F_is_corners : FM) (F_is_hull : FM) (ds : Sl) (G : Ms) : SR :=
    (ifS (valB (binE gtF (callE max2F (consA (callE absF (consA (varE 2) nilA)) (consA (callE absF (consA (varE 3) nilA)) nilA))) (kE (.int 99)))) (raiseS "BadPart" ["number", "fault"] (consA (varE 1) (consA (kE (.str "far")) nilA))) skipS) ds G
noncomputable def b_checked_part (F_is_corners : FM) (F_is_hull : FM) : SM :=
    (seqS (ifS (orB (notB (truB (fnE F_is_corners (consA (varE 0) nilA)))) (valB (binE ltF (callE lenF (consA (varE 0) nilA)) (kE (.int 3))))) (raiseS "BadPart" ["number", "fault"] (consA (unE negF (kE (.int 1))) (consA (kE (.str "form")) nilA))) skipS)
    (seqS (ifS (valB (binE gtF (callE lenF (consA (varE 0) nilA)) (kE (.int 10)))) (raiseS "TooLarge" ["what", "limit"] (consA (kE (.str "corners")) (consA (kE (.int 10)) nilA))) skipS)
    (seqS (forS (iterE enumTI (varE 0)) (tupT 2 (consT (nameT 1) (consT (tupT 2 (consT (nameT 2) (consT (nameT 3) nilT))) nilT))) (b_checked_part_f0 F_is_corners F_is_hull))
    (seqS (ifS (notB (truB (fnE F_is_hull (consA (varE 0) nilA)))) (raiseS "BadPart" ["number", "fault"] (consA (unE negF (kE (.int 1))) (consA (kE (.str "hull")) nilA))) skipS)
    (retS (varE 0))))))
theorem t_checked_part {F_is_corners : FM} {F_is_hull : FM} (Z : Tx K mg ad) (x_BadPart : Exc2 P w K mg base 1 "BadPart" "number" "fault") (x_TooLarge : Exc2 P w K mg base 1 "TooLarge" "what" "limit") (c_is_corners : Cal P w K mg base T 5 "is_corners" ["thing"] F_is_corners) (c_is_hull : Cal P w K mg base T 5 "is_hull" ["corners"] F_is_hull) : Cal P w K mg base T 6 "checked_part" ["thing"] (defW cutM 4 (b_checked_part F_is_corners F_is_hull)) :=
  cal_of cutM_ok Z.f_checked_part sc_checked_part fun cdv A outer s H E W hr tk hp =>
    (s_cons (s_if (PW.pt (d_torW (d_tnot (d_tru (d_callC c_is_corners tk hr (by decide) rfl (d_cons (d_var (i := 0) rfl (.inl rfl)) d_nil) (lenA_cons lenA_nil)))) (d_tor1 (d_tcmp o_lt (d_callB c_len rfl Z.n_len (by first | rfl | decide +kernel) (d_cons (d_var (i := 0) rfl (.inl rfl)) d_nil)) d_int rfl)))) (s_one (s_raiseC2 rfl tk x_BadPart hr (by decide) rfl (d_cons (d_un u_neg d_int) (d_cons d_str d_nil)) (lenA_cons (lenA_cons lenA_nil)))) s_nil)
    (s_cons (s_if (d_tcmp o_gt (d_callB c_len rfl Z.n_len (by first | rfl | decide +kernel) (d_cons (d_var (i := 0) rfl (.inl rfl)) d_nil)) (d_constG rfl Z.m_MOST_CORNERS) rfl) (s_one (s_raiseC2 rfl tk x_TooLarge hr (by decide) rfl (d_cons d_str (d_cons (d_constG rfl Z.m_MOST_CORNERS) d_nil)) (lenA_cons (lenA_cons lenA_nil)))) s_nil)
    (s_cons (s_for hp rfl (i_enumT rfl Z.n_enumerate (d_var (i := 0) rfl (.inl rfl))) (g_tup rfl (g_cons (g_name (i := 1) sc_checked_part.nd rfl (.inl rfl)) (g_cons (g_tup rfl (g_cons (g_name (i := 2) sc_checked_part.nd rfl (.inl rfl)) (g_cons (g_name (i := 3) sc_checked_part.nd rfl (.inl rfl)) g_nil))) g_nil)))
    (s_one (s_if (d_tcmp o_gt (d_callB (c_max2 rfl) rfl Z.n_max (by first | rfl | decide +kernel) (d_cons (d_callB c_abs rfl Z.n_abs (by first | rfl | decide +kernel) (d_cons (d_var (i := 2) rfl (.inl rfl)) d_nil)) (d_cons (d_callB c_abs rfl Z.n_abs (by first | rfl | decide +kernel) (d_cons (d_var (i := 3) rfl (.inl rfl)) d_nil)) d_nil))) (d_constG rfl Z.m_MOST_FAR) rfl) (s_one (s_raiseC2 rfl tk x_BadPart hr (by decide) rfl (d_cons (d_var (i := 1) rfl (.inl rfl)) (d_cons d_str d_nil)) (lenA_cons (lenA_cons lenA_nil)))) s_nil)))
    (s_cons (s_if (d_tnot (d_tru (d_callC c_is_hull tk hr (by decide) rfl (d_cons (d_var (i := 0) rfl (.inl rfl)) d_nil) (lenA_cons lenA_nil)))) (s_one (s_raiseC2 rfl tk x_BadPart hr (by decide) rfl (d_cons (d_un u_neg d_int) (d_cons d_str d_nil)) (lenA_cons (lenA_cons lenA_nil)))) s_nil)
    (s_one (s_ret (d_var (i := 0) rfl (.inl rfl))))))))
/-! ### sides_of -/
noncomputable def b_sides_of_e0 (ds : Sl) (G : Ms) : ER DV :=
    (callE tupF (consA (binE subF (binE ixF (varE 3) (kE (.int 0))) (binE ixF (varE 2) (kE (.int 0)))) (consA (binE subF (binE ixF (varE 3) (kE (.int 1))) (binE ixF (varE 2) (kE (.int 1)))) nilA))) ds G
noncomputable def b_sides_of : SM :=
    (retS (callE tupleF (consA (zlcE 1 [2, 3] (consA (varE 0) (consA (callE tupF (starA (sliceE true (varE 0) (theO (kE (.int 1))) noO) (consA (binE ixF (varE 0) (kE (.int 0))) nilA))) nilA)) (tupT 2 (consT (nameT 2) (consT (nameT 3) nilT))) yesB (b_sides_of_e0)) nilA)))
theorem t_sides_of (Z : Tx K mg ad) : Cal P w K mg base T 2 "sides_of" ["part"] (defW cutM 4 (b_sides_of)) :=
  cal_of cutM_ok Z.f_sides_of sc_sides_of fun cdv A outer s H E W hr tk hp =>
    (by
      refine' d_zipIn (i := 1) (own := [("one", 2), ("other", 3)]) ?hc ?hN ?hi ?hx ?hg ?hm ?ha ?ok ?hgt ?cg ?ht ?he ?hret
      (case hret => exact (fun te h => ps_ret (pe_callTy c_tuple rfl Z.n_tuple (by first | rfl | decide +kernel) (pa_cons h pa_nil))))
      (case cg => exact (c_tup (c_cons (c_name (by decide)) (c_cons (c_name (by decide)) c_nil))))
      (case hc => exact rfl)
      (case hN => exact sc_sides_of.nd)
      (case hi => exact rfl)
      (case hx => exact rfl)
      (case hg => exact rfl)
      (case hm => exact Z.n_zip)
      (case ha => exact (d_cons (d_var (i := 0) rfl (.inl rfl)) (d_cons (d_tup (d_star (d_slice (fz := true) (d_var (i := 0) rfl (.inl rfl)) (p_some d_int) p_none) (d_cons (d_ix x_ix (d_var (i := 0) rfl (.inl rfl)) d_int (fun _ _ => rfl)) d_nil))) d_nil)))
      (case ok => exact (blkOk_by (N := ["part", "rows", "one", "other"]) (sc := (defScope s_sides_of)) (by decide +kernel)))
      (case hgt => exact (fun s H C cl fp => (pg_tup rfl (pgs_cons (pg_name (i := 2) sc_sides_of.nd rfl (.inl rfl)) (pgs_cons (pg_name (i := 3) sc_sides_of.nd rfl (.inl rfl)) pgs_nil)))))
      (case ht => exact (fun s H C cl fp => pts_yes))
      (case he => exact (fun s H C cl fp => (d_tup (d_cons (d_bin o_sub (d_ix x_ix (d_var (i := 3) rfl (.inl rfl)) d_int (fun _ _ => rfl)) (d_ix x_ix (d_var (i := 2) rfl (.inl rfl)) d_int (fun _ _ => rfl))) (d_cons (d_bin o_sub (d_ix x_ix (d_var (i := 3) rfl (.inl rfl)) d_int (fun _ _ => rfl)) (d_ix x_ix (d_var (i := 2) rfl (.inl rfl)) d_int (fun _ _ => rfl))) d_nil))))))
/-! ### double_area -/
noncomputable def b_double_area_e0 (ds : Sl) (G : Ms) : ER DV :=
    (binE subF (binE mulF (binE ixF (varE 2) (kE (.int 0))) (binE ixF (varE 3) (kE (.int 1)))) (binE mulF (binE ixF (varE 2) (kE (.int 1))) (binE ixF (varE 3) (kE (.int 0))))) ds G
noncomputable def b_double_area : SM :=
    (retS (callE sumF (consA (zlcE 1 [2, 3] (consA (varE 0) (consA (callE tupF (starA (sliceE true (varE 0) (theO (kE (.int 1))) noO) (consA (binE ixF (varE 0) (kE (.int 0))) nilA))) nilA)) (tupT 2 (consT (nameT 2) (consT (nameT 3) nilT))) yesB (b_double_area_e0)) nilA)))
theorem t_double_area (Z : Tx K mg ad) : Cal P w K mg base T 2 "double_area" ["part"] (defW cutM 4 (b_double_area)) :=
  cal_of cutM_ok Z.f_double_area sc_double_area fun cdv A outer s H E W hr tk hp =>
    (by
      refine' d_zipIn (i := 1) (own := [("one", 2), ("other", 3)]) ?hc ?hN ?hi ?hx ?hg ?hm ?ha ?ok ?hgt ?cg ?ht ?he ?hret
      (case hret => exact (fun te h => ps_ret (pe_callB (c_sum rfl) rfl Z.n_sum (by first | rfl | decide +kernel) (pa_cons h pa_nil))))
      (case cg => exact (c_tup (c_cons (c_name (by decide)) (c_cons (c_name (by decide)) c_nil))))
      (case hc => exact rfl)
      (case hN => exact sc_double_area.nd)
      (case hi => exact rfl)
      (case hx => exact rfl)
      (case hg => exact rfl)
      (case hm => exact Z.n_zip)
      (case ha => exact (d_cons (d_var (i := 0) rfl (.inl rfl)) (d_cons (d_tup (d_star (d_slice (fz := true) (d_var (i := 0) rfl (.inl rfl)) (p_some d_int) p_none) (d_cons (d_ix x_ix (d_var (i := 0) rfl (.inl rfl)) d_int (fun _ _ => rfl)) d_nil))) d_nil)))
      (case ok => exact (blkOk_by (N := ["part", "rows", "one", "other"]) (sc := (defScope s_double_area)) (by decide +kernel)))
      (case hgt => exact (fun s H C cl fp => (pg_tup rfl (pgs_cons (pg_name (i := 2) sc_double_area.nd rfl (.inl rfl)) (pgs_cons (pg_name (i := 3) sc_double_area.nd rfl (.inl rfl)) pgs_nil)))))
      (case ht => exact (fun s H C cl fp => pts_yes))
      (case he => exact (fun s H C cl fp => (d_bin o_sub (d_bin o_mul (d_ix x_ix (d_var (i := 2) rfl (.inl rfl)) d_int (fun _ _ => rfl)) (d_ix x_ix (d_var (i := 3) rfl (.inl rfl)) d_int (fun _ _ => rfl))) (d_bin o_mul (d_ix x_ix (d_var (i := 2) rfl (.inl rfl)) d_int (fun _ _ => rfl)) (d_ix x_ix (d_var (i := 3) rfl (.inl rfl)) d_int (fun _ _ => rfl)))))))
/-! ### is_within -/
noncomputable def b_is_within_e0 (F_turn_of : FM) (ds : Sl) (G : Ms) : ER DV :=
    (binE geF (fnE F_turn_of (consA (varE 3) (consA (varE 4) (consA (varE 1) nilA)))) (kE (.int 0))) ds G
noncomputable def b_is_within (F_turn_of : FM) : SM :=
    (retS (callE allF (consA (zlcE 2 [3, 4] (consA (varE 0) (consA (callE tupF (starA (sliceE true (varE 0) (theO (kE (.int 1))) noO) (consA (binE ixF (varE 0) (kE (.int 0))) nilA))) nilA)) (tupT 2 (consT (nameT 3) (consT (nameT 4) nilT))) yesB (b_is_within_e0 F_turn_of)) nilA)))
theorem t_is_within {F_turn_of : FM} (Z : Tx K mg ad) (c_turn_of : Cal P w K mg base T 2 "turn_of" ["one", "two", "three"] F_turn_of) : Cal P w K mg base T 3 "is_within" ["part", "point"] (defW cutM 5 (b_is_within F_turn_of)) :=
  cal_of cutM_ok Z.f_is_within sc_is_within fun cdv A outer s H E W hr tk hp =>
    (by
      refine' d_zipIn (i := 2) (own := [("one", 3), ("other", 4)]) ?hc ?hN ?hi ?hx ?hg ?hm ?ha ?ok ?hgt ?cg ?ht ?he ?hret
      (case hret => exact (fun te h => ps_ret (pe_callB (c_all rfl) rfl Z.n_all (by first | rfl | decide +kernel) (pa_cons h pa_nil))))
      (case cg => exact (c_tup (c_cons (c_name (by decide)) (c_cons (c_name (by decide)) c_nil))))
      (case hc => exact rfl)
      (case hN => exact sc_is_within.nd)
      (case hi => exact rfl)
      (case hx => exact rfl)
      (case hg => exact rfl)
      (case hm => exact Z.n_zip)
      (case ha => exact (d_cons (d_var (i := 0) rfl (.inl rfl)) (d_cons (d_tup (d_star (d_slice (fz := true) (d_var (i := 0) rfl (.inl rfl)) (p_some d_int) p_none) (d_cons (d_ix x_ix (d_var (i := 0) rfl (.inl rfl)) d_int (fun _ _ => rfl)) d_nil))) d_nil)))
      (case ok => exact (blkOk_by (N := ["part", "point", "rows", "one", "other"]) (sc := (defScope s_is_within)) (by decide +kernel)))
      (case hgt => exact (fun s H C cl fp => (pg_tup rfl (pgs_cons (pg_name (i := 3) sc_is_within.nd rfl (.inl rfl)) (pgs_cons (pg_name (i := 4) sc_is_within.nd rfl (.inl rfl)) pgs_nil)))))
      (case ht => exact (fun s H C cl fp => pts_yes))
      (case he => exact (fun s H C cl fp => (d_cmp o_ge (d_callC c_turn_of LamX.takes0 hr (by decide) rfl (d_cons (d_var (i := 3) rfl (.inl rfl)) (d_cons (d_var (i := 4) rfl (.inl rfl)) (d_cons (d_var (i := 1) rfl (.inr (.inl rfl))) d_nil))) (lenA_cons (lenA_cons (lenA_cons lenA_nil)))) d_int rfl))))
/-! ### shifted -/
noncomputable def b_shifted_e0 (F_checked_part : FM) (ds : Sl) (G : Ms) : ER DV :=
    (callE tupF (consA (binE (addF true) (varE 2) (binE ixF (varE 1) (kE (.int 0)))) (consA (binE (addF true) (varE 3) (binE ixF (varE 1) (kE (.int 1)))) nilA))) ds G
noncomputable def b_shifted (F_checked_part : FM) : SM :=
    (retS (fnE F_checked_part (consA (callE tupleF (consA (lcE true [2, 3] (iterE tupI (varE 0)) (tupT 2 (consT (nameT 2) (consT (nameT 3) nilT))) yesB (b_shifted_e0 F_checked_part)) nilA)) nilA)))
theorem t_shifted {F_checked_part : FM} (Z : Tx K mg ad) (c_checked_part : Cal P w K mg base T 6 "checked_part" ["thing"] F_checked_part) : Cal P w K mg base T 7 "shifted" ["part", "by"] (defW cutM 4 (b_shifted F_checked_part)) :=
  cal_of cutM_ok Z.f_shifted sc_shifted fun cdv A outer s H E W hr tk hp =>
    (s_one (s_ret (d_callC c_checked_part tk hr (by decide) rfl (d_cons (d_callTy c_tuple rfl Z.n_tuple (by first | rfl | decide +kernel) (d_cons (d_lc (fz := true) (own := [("x", 2), ("y", 3)]) rfl sc_shifted.nd (i_tup (d_var (i := 0) rfl (.inl rfl))) (blkOk_by (N := ["part", "by", "x", "y"]) (sc := (defScope s_shifted)) (by decide +kernel)) (fun s H C cl fp => (pg_tup rfl (pgs_cons (pg_name (i := 2) sc_shifted.nd rfl (.inl rfl)) (pgs_cons (pg_name (i := 3) sc_shifted.nd rfl (.inl rfl)) pgs_nil)))) (c_tup (c_cons (c_name (by decide)) (c_cons (c_name (by decide)) c_nil))) (fun s H C cl fp => pts_yes) (fun s H C cl fp => (d_tup (d_cons (d_bin (o_add (fz := true)) (d_var (i := 2) rfl (.inl rfl)) (d_ix x_ix (d_var (i := 1) rfl (.inr (.inl rfl))) d_int (fun _ _ => rfl))) (d_cons (d_bin (o_add (fz := true)) (d_var (i := 3) rfl (.inl rfl)) (d_ix x_ix (d_var (i := 1) rfl (.inr (.inl rfl))) d_int (fun _ _ => rfl))) d_nil))))) d_nil)) d_nil) (lenA_cons lenA_nil))))
/-! ### frame_of -/
noncomputable def b_frame_of_e0 (ds : Sl) (G : Ms) : ER DV :=
    (varE 3) ds G
noncomputable def b_frame_of_e1 (ds : Sl) (G : Ms) : ER DV :=
    (varE 4) ds G
noncomputable def b_frame_of : SM :=
    (seqS (parS 1 2 (lcE true [3, 4] (iterE tupI (varE 0)) (tupT 2 (consT (nameT 3) (consT (nameT 4) nilT))) yesB (b_frame_of_e0)) (lcE true [3, 4] (iterE tupI (varE 0)) (tupT 2 (consT (nameT 3) (consT (nameT 4) nilT))) yesB (b_frame_of_e1)))
    (retS (callE tupF (consA (callE minF (consA (varE 1) nilA)) (consA (callE minF (consA (varE 2) nilA)) (consA (callE maxF (consA (varE 1) nilA)) (consA (callE maxF (consA (varE 2) nilA)) nilA)))))))
theorem t_frame_of (Z : Tx K mg ad) : Cal P w K mg base T 2 "frame_of" ["part"] (defW cutM 5 (b_frame_of)) :=
  cal_of cutM_ok Z.f_frame_of sc_frame_of fun cdv A outer s H E W hr tk hp =>
    (s_cons (s_par (i := 1) (j := 2) rfl sc_frame_of.nd rfl rfl (by decide) rfl rfl (d_lc (fz := true) (own := [("x", 3), ("y", 4)]) rfl sc_frame_of.nd (i_tup (d_var (i := 0) rfl (.inl rfl))) (blkOk_by (N := ["part", "across", "along", "x", "y"]) (sc := (defScope s_frame_of)) (by decide +kernel)) (fun s H C cl fp => (pg_tup rfl (pgs_cons (pg_name (i := 3) sc_frame_of.nd rfl (.inl rfl)) (pgs_cons (pg_name (i := 4) sc_frame_of.nd rfl (.inl rfl)) pgs_nil)))) (c_tup (c_cons (c_name (by decide)) (c_cons (c_name (by decide)) c_nil))) (fun s H C cl fp => pts_yes) (fun s H C cl fp => (d_var (i := 3) rfl (.inl rfl)))) (d_lc (fz := true) (own := [("x", 3), ("y", 4)]) rfl sc_frame_of.nd (i_tup (d_var (i := 0) rfl (.inl rfl))) (blkOk_by (N := ["part", "across", "along", "x", "y"]) (sc := (defScope s_frame_of)) (by decide +kernel)) (fun s H C cl fp => (pg_tup rfl (pgs_cons (pg_name (i := 3) sc_frame_of.nd rfl (.inl rfl)) (pgs_cons (pg_name (i := 4) sc_frame_of.nd rfl (.inl rfl)) pgs_nil)))) (c_tup (c_cons (c_name (by decide)) (c_cons (c_name (by decide)) c_nil))) (fun s H C cl fp => pts_yes) (fun s H C cl fp => (d_var (i := 4) rfl (.inl rfl)))) (by first | rfl | decide +kernel))
    (s_one (s_ret (d_tup (d_cons (d_callB (c_min rfl) rfl Z.n_min (by first | rfl | decide +kernel) (d_cons (d_var (i := 1) rfl (.inl rfl)) d_nil)) (d_cons (d_callB (c_min rfl) rfl Z.n_min (by first | rfl | decide +kernel) (d_cons (d_var (i := 2) rfl (.inl rfl)) d_nil)) (d_cons (d_callB (c_max rfl) rfl Z.n_max (by first | rfl | decide +kernel) (d_cons (d_var (i := 1) rfl (.inl rfl)) d_nil)) (d_cons (d_callB (c_max rfl) rfl Z.n_max (by first | rfl | decide +kernel) (d_cons (d_var (i := 2) rfl (.inl rfl)) d_nil)) d_nil))))))))
/-! ### first_on_left -/
noncomputable def b_first_on_left_e0 (ds : Sl) (G : Ms) : ER DV :=
    (callE tupF (consA (unE negF (binE subF (binE mulF (binE ixF (varE 1) (kE (.int 0))) (varE 5)) (binE mulF (binE ixF (varE 1) (kE (.int 1))) (varE 4)))) (consA (varE 3) nilA))) ds G
noncomputable def b_first_on_left : SM :=
    (seqS (asgS (lcE true [3, 4, 5] (iterE enumTI (varE 0)) (tupT 2 (consT (nameT 3) (consT (tupT 2 (consT (nameT 4) (consT (nameT 5) nilT))) nilT))) yesB (b_first_on_left_e0)) (nameT 2))
    (retS (binE ixF (varE 0) (binE ixF (callE minRowF (consA (varE 2) nilA)) (kE (.int 1))))))
theorem t_first_on_left (Z : Tx K mg ad) : Cal P w K mg base T 2 "first_on_left" ["part", "way"] (defW cutM 6 (b_first_on_left)) :=
  cal_of cutM_ok Z.f_first_on_left sc_first_on_left fun cdv A outer s H E W hr tk hp =>
    (s_cons (s_setLc (i := 2) (fz := true) (own := [("number", 3), ("x", 4), ("y", 5)]) rfl sc_first_on_left.nd (i_enumT rfl Z.n_enumerate (d_var (i := 0) rfl (.inl rfl))) (blkOk_by (N := ["part", "way", "rows", "number", "x", "y"]) (sc := (defScope s_first_on_left)) (by decide +kernel)) (fun s H C cl fp => (pg_tup rfl (pgs_cons (pg_name (i := 3) sc_first_on_left.nd rfl (.inl rfl)) (pgs_cons (pg_tup rfl (pgs_cons (pg_name (i := 4) sc_first_on_left.nd rfl (.inl rfl)) (pgs_cons (pg_name (i := 5) sc_first_on_left.nd rfl (.inl rfl)) pgs_nil))) pgs_nil)))) (c_tup (c_cons (c_name (by decide)) (c_cons (c_tup (c_cons (c_name (by decide)) (c_cons (c_name (by decide)) c_nil))) c_nil))) (fun s H C cl fp => pts_yes) (fun s H C cl fp => (d_tup (d_cons (d_un u_neg (d_bin o_sub (d_bin o_mul (d_ix x_ix (d_var (i := 1) rfl (.inr (.inl rfl))) d_int (fun _ _ => rfl)) (d_var (i := 5) rfl (.inl rfl))) (d_bin o_mul (d_ix x_ix (d_var (i := 1) rfl (.inr (.inl rfl))) d_int (fun _ _ => rfl)) (d_var (i := 4) rfl (.inl rfl))))) (d_cons (d_var (i := 3) rfl (.inl rfl)) d_nil)))) rfl rfl (sw_true rfl rfl rfl (by decide +kernel)))
    (s_one (s_ret (d_ix x_ix (d_var (i := 0) rfl (.inl rfl)) (d_ix x_ix (d_callB (c_minR rfl (hu_eq hr)) rfl Z.n_min (by first | rfl | decide +kernel) (d_cons (d_var (i := 2) rfl (.inl rfl)) d_nil)) d_int (fun _ _ => rfl)) (fun _ _ => rfl)))))
/-! ### far_along -/
noncomputable def b_far_along_e0 (ds : Sl) (G : Ms) : ER DV :=
    (binE (addF true) (binE mulF (binE ixF (varE 1) (kE (.int 0))) (varE 3)) (binE mulF (binE ixF (varE 1) (kE (.int 1))) (varE 4))) ds G
noncomputable def b_far_along : SM :=
    (seqS (asgS (lcE true [3, 4] (iterE tupI (varE 0)) (tupT 2 (consT (nameT 3) (consT (nameT 4) nilT))) yesB (b_far_along_e0)) (nameT 2))
    (retS (callE tupF (consA (callE minF (consA (varE 2) nilA)) (consA (callE maxF (consA (varE 2) nilA)) nilA)))))
theorem t_far_along (Z : Tx K mg ad) : Cal P w K mg base T 2 "far_along" ["part", "way"] (defW cutM 5 (b_far_along)) :=
  cal_of cutM_ok Z.f_far_along sc_far_along fun cdv A outer s H E W hr tk hp =>
    (s_cons (s_setLc (i := 2) (fz := true) (own := [("x", 3), ("y", 4)]) rfl sc_far_along.nd (i_tup (d_var (i := 0) rfl (.inl rfl))) (blkOk_by (N := ["part", "way", "rows", "x", "y"]) (sc := (defScope s_far_along)) (by decide +kernel)) (fun s H C cl fp => (pg_tup rfl (pgs_cons (pg_name (i := 3) sc_far_along.nd rfl (.inl rfl)) (pgs_cons (pg_name (i := 4) sc_far_along.nd rfl (.inl rfl)) pgs_nil)))) (c_tup (c_cons (c_name (by decide)) (c_cons (c_name (by decide)) c_nil))) (fun s H C cl fp => pts_yes) (fun s H C cl fp => (d_bin (o_add (fz := true)) (d_bin o_mul (d_ix x_ix (d_var (i := 1) rfl (.inr (.inl rfl))) d_int (fun _ _ => rfl)) (d_var (i := 3) rfl (.inl rfl))) (d_bin o_mul (d_ix x_ix (d_var (i := 1) rfl (.inr (.inl rfl))) d_int (fun _ _ => rfl)) (d_var (i := 4) rfl (.inl rfl))))) rfl rfl (sw_true rfl rfl rfl (by decide +kernel)))
    (s_one (s_ret (d_tup (d_cons (d_callB (c_min rfl) rfl Z.n_min (by first | rfl | decide +kernel) (d_cons (d_var (i := 2) rfl (.inl rfl)) d_nil)) (d_cons (d_callB (c_max rfl) rfl Z.n_max (by first | rfl | decide +kernel) (d_cons (d_var (i := 2) rfl (.inl rfl)) d_nil)) d_nil))))))
/-! ### _law_bag -/
noncomputable def b__law_bag_e0 (ds : Sl) (G : Ms) : ER DV :=
    (callE absF (consA (varE 1) nilA)) ds G
noncomputable def b__law_bag : SM :=
    (retS (callE (listF false) (consA (kE (.int 0)) (consA (kE (.int 1234567891)) (consA (kE (.int 0)) (consA (lcE true [1] (iterE seqI (sliceE true (varE 0) noO (theO (kE (.int 63))))) (nameT 1) yesB (b__law_bag_e0)) nilA))))))
theorem t__law_bag (Z : Tx K mg ad) : Cal P w K mg base T 2 "_law_bag" ["script"] (defW keepM 2 (b__law_bag)) :=
  cal_of keepM_ok Z.f__law_bag sc__law_bag fun cdv A outer s H E W hr tk hp =>
    (s_one (s_ret (d_list (fz := false) (d_cons d_int (d_cons d_int (d_cons d_int (d_cons (d_lc (fz := true) (own := [("cell", 1)]) rfl sc__law_bag.nd (i_list (d_slice (fz := true) (d_var (i := 0) rfl (.inl rfl)) p_none (p_some d_int))) (blkOk_by (N := ["script", "cell"]) (sc := (defScope s__law_bag)) (by decide +kernel)) (fun s H C cl fp => (pg_name (i := 1) sc__law_bag.nd rfl (.inl rfl))) (c_name (by decide)) (fun s H C cl fp => pts_yes) (fun s H C cl fp => (d_callB c_abs rfl Z.n_abs (by first | rfl | decide +kernel) (d_cons (d_var (i := 1) rfl (.inl rfl)) d_nil)))) d_nil)))))))
/-! ### _law_take -/
noncomputable def b__law_take : SM :=
    (seqS (ifS (valB (binE (eqF false) (binE ixF (varE 0) (kE (.int 0))) (kE (.int 0)))) (seqS (asgS (binE ixF (binE (addF true) (sliceE true (binE ixF (varE 0) (kE (.int 3))) (theO (binE ixF (varE 0) (kE (.int 2)))) noO) (callE (listF true) (consA (kE (.int 0)) nilA))) (kE (.int 0))) (nameT 2))
      (seqS (ixAugS (varE 0) (kE (.int 2)) getF (kE (.int 1)) iaddF setF)
      (seqS (ifS (valB (binE geF (varE 2) (binE powF (kE (.int 10)) (kE (.int 18))))) (ixAsgS (varE 2) (varE 0) (kE (.int 0)) setF) skipS)
      (seqS (asgS (binE (addF true) (binE (addF true) (binE mulF (binE ixF (varE 0) (kE (.int 1))) (kE (.int 48271))) (binE modF (callE intF1 (consA (varE 2) nilA)) (kE (.int 2147483647)))) (binE mulF (kE (.int 7919)) (binE ixF (varE 0) (kE (.int 2))))) (nameT 3))
      (ixAsgS (binE modF (callE intF1 (consA (varE 3) nilA)) (kE (.int 2147483647))) (varE 0) (kE (.int 1)) setF))))) skipS)
    (seqS (ifS (valB (binE gtF (binE ixF (varE 0) (kE (.int 0))) (kE (.int 0)))) (seqS (asgS (binE modF (callE intF1 (consA (binE ixF (varE 0) (kE (.int 0))) nilA)) (varE 1)) (nameT 4))
      (seqS (ixAsgS (binE fdivF (callE intF1 (consA (binE ixF (varE 0) (kE (.int 0))) nilA)) (varE 1)) (varE 0) (kE (.int 0)) setF)
      (retS (varE 4)))) skipS)
    (seqS (asgS (binE modF (callE intF1 (consA (binE mulF (binE (addF true) (binE ixF (varE 0) (kE (.int 1))) (kE (.int 1))) (kE (.int 39373))) nilA)) (kE (.int 1000000007))) (nameT 5))
    (seqS (asgS (binE modF (callE intF1 (consA (binE mulF (binE modF (callE intF1 (consA (binE mulF (varE 5) (varE 5)) nilA)) (kE (.int 998244353))) (kE (.int 30011))) nilA)) (kE (.int 998244353))) (nameT 6))
    (retS (binE modF (callE intF1 (consA (binE fdivF (varE 6) (kE (.int 7))) nilA)) (varE 1)))))))
theorem t__law_take (Z : Tx K mg ad) : Cal P w K mg base T 2 "_law_take" ["bag", "many"] (defW cutM 7 (b__law_take)) :=
  cal_of cutM_ok Z.f__law_take sc__law_take fun cdv A outer s H E W hr tk hp =>
    (s_cons (s_if (d_tcmp (o_eq (hu_eq hr)) (d_ix x_ix (d_var (i := 0) rfl (.inl rfl)) d_int (fun _ _ => rfl)) d_int rfl) (s_cons (s_set (i := 2) sc__law_take.nd rfl (.inl rfl) (d_ix x_ix (d_bin (o_add (fz := true)) (d_slice (fz := true) (d_ix x_ix (d_var (i := 0) rfl (.inl rfl)) d_int (fun _ _ => rfl)) (p_some (d_ix x_ix (d_var (i := 0) rfl (.inl rfl)) d_int (fun _ _ => rfl))) p_none) (d_list (fz := true) (d_cons d_int d_nil))) d_int (fun _ _ => rfl)))
      (s_cons (s_augIx (d_var (i := 0) rfl (.inl rfl)) d_int get_l d_int io_add set_l)
      (s_cons (s_if (d_tcmp o_ge (d_var (i := 2) rfl (.inl rfl)) (d_bin o_pow d_int d_int) rfl) (s_one (s_asgIx (d_var (i := 2) rfl (.inl rfl)) (d_var (i := 0) rfl (.inl rfl)) d_int set_l)) s_nil)
      (s_cons (s_set (i := 3) sc__law_take.nd rfl (.inl rfl) (d_bin (o_add (fz := true)) (d_bin (o_add (fz := true)) (d_bin o_mul (d_ix x_ix (d_var (i := 0) rfl (.inl rfl)) d_int (fun _ _ => rfl)) d_int) (d_bin o_mod (d_callTy c_int rfl Z.n_int (by first | rfl | decide +kernel) (d_cons (d_var (i := 2) rfl (.inl rfl)) d_nil)) d_int)) (d_bin o_mul d_int (d_ix x_ix (d_var (i := 0) rfl (.inl rfl)) d_int (fun _ _ => rfl)))))
      (s_one (s_asgIx (d_bin o_mod (d_callTy c_int rfl Z.n_int (by first | rfl | decide +kernel) (d_cons (d_var (i := 3) rfl (.inl rfl)) d_nil)) d_int) (d_var (i := 0) rfl (.inl rfl)) d_int set_l)))))) s_nil)
    (s_cons (s_if (d_tcmp o_gt (d_ix x_ix (d_var (i := 0) rfl (.inl rfl)) d_int (fun _ _ => rfl)) d_int rfl) (s_cons (s_set (i := 4) sc__law_take.nd rfl (.inl rfl) (d_bin o_mod (d_callTy c_int rfl Z.n_int (by first | rfl | decide +kernel) (d_cons (d_ix x_ix (d_var (i := 0) rfl (.inl rfl)) d_int (fun _ _ => rfl)) d_nil)) (d_var (i := 1) rfl (.inl rfl))))
      (s_cons (s_asgIx (d_bin o_fdiv (d_callTy c_int rfl Z.n_int (by first | rfl | decide +kernel) (d_cons (d_ix x_ix (d_var (i := 0) rfl (.inl rfl)) d_int (fun _ _ => rfl)) d_nil)) (d_var (i := 1) rfl (.inl rfl))) (d_var (i := 0) rfl (.inl rfl)) d_int set_l)
      (s_one (s_ret (d_var (i := 4) rfl (.inl rfl)))))) s_nil)
    (s_cons (s_set (i := 5) sc__law_take.nd rfl (.inl rfl) (d_bin o_mod (d_callTy c_int rfl Z.n_int (by first | rfl | decide +kernel) (d_cons (d_bin o_mul (d_bin (o_add (fz := true)) (d_ix x_ix (d_var (i := 0) rfl (.inl rfl)) d_int (fun _ _ => rfl)) d_int) d_int) d_nil)) d_int))
    (s_cons (s_set (i := 6) sc__law_take.nd rfl (.inl rfl) (d_bin o_mod (d_callTy c_int rfl Z.n_int (by first | rfl | decide +kernel) (d_cons (d_bin o_mul (d_bin o_mod (d_callTy c_int rfl Z.n_int (by first | rfl | decide +kernel) (d_cons (d_bin o_mul (d_var (i := 5) rfl (.inl rfl)) (d_var (i := 5) rfl (.inl rfl))) d_nil)) d_int) d_int) d_nil)) d_int))
    (s_one (s_ret (d_bin o_mod (d_callTy c_int rfl Z.n_int (by first | rfl | decide +kernel) (d_cons (d_bin o_fdiv (d_var (i := 6) rfl (.inl rfl)) d_int) d_nil)) (d_var (i := 1) rfl (.inl rfl)))))))))
/-! ### _law_some -/
noncomputable def b__law_some (F__law_take : FM) : SM :=
    (retS (binE ixF (varE 1) (fnE F__law_take (consA (varE 0) (consA (callE lenF (consA (varE 1) nilA)) nilA)))))
theorem t__law_some {F__law_take : FM} (Z : Tx K mg ad) (c__law_take : Cal P w K mg base T 2 "_law_take" ["bag", "many"] F__law_take) : Cal P w K mg base T 3 "_law_some" ["bag", "things"] (defW cutM 2 (b__law_some F__law_take)) :=
  cal_of cutM_ok Z.f__law_some sc__law_some fun cdv A outer s H E W hr tk hp =>
    (s_one (s_ret (d_ix x_ix (d_var (i := 1) rfl (.inl rfl)) (d_callC c__law_take tk hr (by decide) rfl (d_cons (d_var (i := 0) rfl (.inl rfl)) (d_cons (d_callB c_len rfl Z.n_len (by first | rfl | decide +kernel) (d_cons (d_var (i := 1) rfl (.inl rfl)) d_nil)) d_nil)) (lenA_cons (lenA_cons lenA_nil))) (fun _ _ => rfl))))
/-! ### _law_alike -/
noncomputable def b__law_alike : SM :=
    (retS (andE (binE (eqF false) (callE reprF (consA (varE 0) nilA)) (callE reprF (consA (varE 1) nilA))) (binE (eqF false) (varE 0) (varE 1))))
theorem t__law_alike (Z : Tx K mg ad) : CalG P w K mg base T 2 "_law_alike" ["found", "due"] (defW cutM 2 (b__law_alike)) :=
  calG_of cutM_ok Z.f__law_alike sc__law_alike fun cdv A outer s H E W hgd hr tk hp =>
    (s_one (s_ret (d_and (d_cmp (o_eq (hu_eq hr)) (d_callB (c_repr hgd (hu_150 hr)) rfl Z.n_repr (by first | rfl | decide +kernel) (d_cons (d_var (i := 0) rfl (.inl rfl)) d_nil)) (d_callB (c_repr hgd (hu_150 hr)) rfl Z.n_repr (by first | rfl | decide +kernel) (d_cons (d_var (i := 1) rfl (.inl rfl)) d_nil)) rfl) (d_one (d_cmp (o_eq (hu_eq hr)) (d_var (i := 0) rfl (.inl rfl)) (d_var (i := 1) rfl (.inl rfl)) rfl)))))
/-! ### _law_gcd -/
noncomputable def b__law_gcd_f0 (ds : Sl) (G : Ms) : SR :=
    (seqS (ifS (valB (binE (eqF false) (varE 1) (kE (.int 0)))) (retS (varE 0)) skipS)
      (parS 0 1 (varE 1) (binE modF (callE intF1 (consA (varE 0) nilA)) (callE intF1 (consA (varE 1) nilA))))) ds G
noncomputable def b__law_gcd : SM :=
    (seqS (parS 0 1 (callE absF (consA (varE 0) nilA)) (callE absF (consA (varE 1) nilA)))
    (seqS (forS (iterA range1F (consA (kE (.int 4000)) nilA)) (nameT 2) (b__law_gcd_f0))
    (retS (varE 0))))
theorem t__law_gcd (Z : Tx K mg ad) : Cal P w K mg base T 2 "_law_gcd" ["a", "b"] (defW cutM 3 (b__law_gcd)) :=
  cal_of cutM_ok Z.f__law_gcd sc__law_gcd fun cdv A outer s H E W hr tk hp =>
    (s_cons (s_par (i := 0) (j := 1) rfl sc__law_gcd.nd rfl rfl (by decide) rfl rfl (d_callB c_abs rfl Z.n_abs (by first | rfl | decide +kernel) (d_cons (d_var (i := 0) rfl (.inl rfl)) d_nil)) (d_callB c_abs rfl Z.n_abs (by first | rfl | decide +kernel) (d_cons (d_var (i := 1) rfl (.inl rfl)) d_nil)) (by first | rfl | decide +kernel))
    (s_cons (s_for hp rfl (i_range1 rfl Z.n_range (d_cons d_int d_nil)) (g_name (i := 2) sc__law_gcd.nd rfl (.inl rfl))
    (s_cons (s_if (d_tcmp (o_eq (hu_eq hr)) (d_var (i := 1) rfl (.inl rfl)) d_int rfl) (s_one (s_ret (d_var (i := 0) rfl (.inl rfl)))) s_nil)
      (s_one (s_par (i := 0) (j := 1) rfl sc__law_gcd.nd rfl rfl (by decide) rfl rfl (d_var (i := 1) rfl (.inl rfl)) (d_bin o_mod (d_callTy c_int rfl Z.n_int (by first | rfl | decide +kernel) (d_cons (d_var (i := 0) rfl (.inl rfl)) d_nil)) (d_callTy c_int rfl Z.n_int (by first | rfl | decide +kernel) (d_cons (d_var (i := 1) rfl (.inl rfl)) d_nil))) (by first | rfl | decide +kernel)))))
    (s_one (s_ret (d_var (i := 0) rfl (.inl rfl))))))
/-! ### _law_cross -/
noncomputable def b__law_cross : SM :=
    (retS (binE subF (binE mulF (binE ixF (varE 0) (kE (.int 0))) (binE ixF (varE 1) (kE (.int 1)))) (binE mulF (binE ixF (varE 0) (kE (.int 1))) (binE ixF (varE 1) (kE (.int 0))))))
theorem t__law_cross (Z : Tx K mg ad) : Cal P w K mg base T 2 "_law_cross" ["one", "other"] (defW cutM 2 (b__law_cross)) :=
  cal_of cutM_ok Z.f__law_cross sc__law_cross fun cdv A outer s H E W hr tk hp =>
    (s_one (s_ret (d_bin o_sub (d_bin o_mul (d_ix x_ix (d_var (i := 0) rfl (.inl rfl)) d_int (fun _ _ => rfl)) (d_ix x_ix (d_var (i := 1) rfl (.inl rfl)) d_int (fun _ _ => rfl))) (d_bin o_mul (d_ix x_ix (d_var (i := 0) rfl (.inl rfl)) d_int (fun _ _ => rfl)) (d_ix x_ix (d_var (i := 1) rfl (.inl rfl)) d_int (fun _ _ => rfl))))))
/-! ### _law_hull -/
noncomputable def b__law_hull_f0 (F__law_cross : FM) (ds : Sl) (G : Ms) : SR :=
    (seqS (parS 7 8 (callE tupF (consA (binE subF (binE ixF (varE 5) (kE (.int 0))) (binE ixF (varE 2) (kE (.int 0)))) (consA (binE subF (binE ixF (varE 5) (kE (.int 1))) (binE ixF (varE 2) (kE (.int 1)))) nilA))) (callE tupF (consA (binE subF (binE ixF (varE 6) (kE (.int 0))) (binE ixF (varE 2) (kE (.int 0)))) (consA (binE subF (binE ixF (varE 6) (kE (.int 1))) (binE ixF (varE 2) (kE (.int 1)))) nilA))))
        (seqS (asgS (fnE F__law_cross (consA (varE 7) (consA (varE 8) nilA))) (nameT 9))
        (seqS (asgS (binE gtF (binE (addF true) (callE absF (consA (binE ixF (varE 8) (kE (.int 0))) nilA)) (callE absF (consA (binE ixF (varE 8) (kE (.int 1))) nilA))) (binE (addF true) (callE absF (consA (binE ixF (varE 7) (kE (.int 0))) nilA)) (callE absF (consA (binE ixF (varE 7) (kE (.int 1))) nilA)))) (nameT 10))
        (ifS (orB (valB (binE ltF (varE 9) (kE (.int 0)))) (andB (valB (binE (eqF false) (varE 9) (kE (.int 0)))) (andB (truB (varE 10)) (valB (binE gtF (binE (addF true) (binE mulF (binE ixF (varE 7) (kE (.int 0))) (binE ixF (varE 8) (kE (.int 0)))) (binE mulF (binE ixF (varE 7) (kE (.int 1))) (binE ixF (varE 8) (kE (.int 1))))) (kE (.int 0))))))) (asgS (varE 6) (nameT 5)) skipS)))) ds G
noncomputable def b__law_hull_f1 (F__law_cross : FM) (ds : Sl) (G : Ms) : SR :=
    (seqS (dropS (methL appendF (varE 3) (consA (varE 2) nilA)))
      (seqS (asgS (ifE (valB (binE (eqF true) (varE 2) (binE ixF (varE 1) (kE (.int 0))))) (binE ixF (varE 1) (kE (.int 0))) (binE ixF (varE 1) (kE (.int 1)))) (nameT 5))
      (seqS (forS (iterE seqI (varE 1)) (nameT 6) (b__law_hull_f0 F__law_cross))
      (seqS (asgS (varE 5) (nameT 2))
      (ifS (valB (binE (eqF false) (varE 2) (binE ixF (varE 1) (kE (.int 0))))) breakS skipS))))) ds G
noncomputable def b__law_hull (F__law_cross : FM) : SM :=
    (seqS (asgS (unE (srtSetF true) (varE 0)) (nameT 1))
    (seqS (ifS (valB (binE ltF (callE lenF (consA (varE 1) nilA)) (kE (.int 3)))) (retS (kE .none)) skipS)
    (seqS (parS 2 3 (binE ixF (varE 1) (kE (.int 0))) (callE (listF false) nilA))
    (seqS (forS (iterA range1F (consA (binE (addF true) (callE lenF (consA (varE 1) nilA)) (kE (.int 1))) nilA)) (nameT 4) (b__law_hull_f1 F__law_cross))
    (retS (ifE (valB (binE gtF (callE lenF (consA (varE 3) nilA)) (kE (.int 2)))) (callE tupleF (consA (varE 3) nilA)) (kE .none)))))))
theorem t__law_hull {F__law_cross : FM} (Z : Tx K mg ad) (c__law_cross : Cal P w K mg base T 2 "_law_cross" ["one", "other"] F__law_cross) : Cal P w K mg base T 3 "_law_hull" ["spots"] (defW cutM 11 (b__law_hull F__law_cross)) :=
  cal_of cutM_ok Z.f__law_hull sc__law_hull fun cdv A outer s H E W hr tk hp =>
    (s_cons (s_set (i := 1) sc__law_hull.nd rfl (.inl rfl) (d_srtSet (fz := true) rfl (hu_64 hr) rfl Z.n_sorted rfl Z.n_set (d_var (i := 0) rfl (.inl rfl))))
    (s_cons (s_if (d_tcmp o_lt (d_callB c_len rfl Z.n_len (by first | rfl | decide +kernel) (d_cons (d_var (i := 1) rfl (.inl rfl)) d_nil)) d_int rfl) (s_one (s_ret d_none)) s_nil)
    (s_cons (s_par (i := 2) (j := 3) rfl sc__law_hull.nd rfl rfl (by decide) rfl rfl (d_ix x_ix (d_var (i := 1) rfl (.inl rfl)) d_int (fun _ _ => rfl)) (d_list (fz := false) d_nil) (by first | rfl | decide +kernel))
    (s_cons (s_for hp rfl (i_range1 rfl Z.n_range (d_cons (d_bin (o_add (fz := true)) (d_callB c_len rfl Z.n_len (by first | rfl | decide +kernel) (d_cons (d_var (i := 1) rfl (.inl rfl)) d_nil)) d_int) d_nil)) (g_name (i := 4) sc__law_hull.nd rfl (.inl rfl))
    (s_cons (s_expr (d_meth PySem.F.slot_list_append PySem.F.type_list_append m_append (d_var (i := 3) rfl (.inl rfl)) (d_cons (d_var (i := 2) rfl (.inl rfl)) d_nil)))
      (s_cons (s_set (i := 5) sc__law_hull.nd rfl (.inl rfl) (d_if (d_tcmp (o_ne (hu_eq hr)) (d_var (i := 2) rfl (.inl rfl)) (d_ix x_ix (d_var (i := 1) rfl (.inl rfl)) d_int (fun _ _ => rfl)) rfl) (d_ix x_ix (d_var (i := 1) rfl (.inl rfl)) d_int (fun _ _ => rfl)) (d_ix x_ix (d_var (i := 1) rfl (.inl rfl)) d_int (fun _ _ => rfl))))
      (s_cons (s_for hp rfl (i_list (d_var (i := 1) rfl (.inl rfl))) (g_name (i := 6) sc__law_hull.nd rfl (.inl rfl))
      (s_cons (s_par (i := 7) (j := 8) rfl sc__law_hull.nd rfl rfl (by decide) rfl rfl (d_tup (d_cons (d_bin o_sub (d_ix x_ix (d_var (i := 5) rfl (.inl rfl)) d_int (fun _ _ => rfl)) (d_ix x_ix (d_var (i := 2) rfl (.inl rfl)) d_int (fun _ _ => rfl))) (d_cons (d_bin o_sub (d_ix x_ix (d_var (i := 5) rfl (.inl rfl)) d_int (fun _ _ => rfl)) (d_ix x_ix (d_var (i := 2) rfl (.inl rfl)) d_int (fun _ _ => rfl))) d_nil))) (d_tup (d_cons (d_bin o_sub (d_ix x_ix (d_var (i := 6) rfl (.inl rfl)) d_int (fun _ _ => rfl)) (d_ix x_ix (d_var (i := 2) rfl (.inl rfl)) d_int (fun _ _ => rfl))) (d_cons (d_bin o_sub (d_ix x_ix (d_var (i := 6) rfl (.inl rfl)) d_int (fun _ _ => rfl)) (d_ix x_ix (d_var (i := 2) rfl (.inl rfl)) d_int (fun _ _ => rfl))) d_nil))) (by first | rfl | decide +kernel))
        (s_cons (s_set (i := 9) sc__law_hull.nd rfl (.inl rfl) (d_callC c__law_cross tk hr (by decide) rfl (d_cons (d_var (i := 7) rfl (.inl rfl)) (d_cons (d_var (i := 8) rfl (.inl rfl)) d_nil)) (lenA_cons (lenA_cons lenA_nil))))
        (s_cons (s_set (i := 10) sc__law_hull.nd rfl (.inl rfl) (d_cmp o_gt (d_bin (o_add (fz := true)) (d_callB c_abs rfl Z.n_abs (by first | rfl | decide +kernel) (d_cons (d_ix x_ix (d_var (i := 8) rfl (.inl rfl)) d_int (fun _ _ => rfl)) d_nil)) (d_callB c_abs rfl Z.n_abs (by first | rfl | decide +kernel) (d_cons (d_ix x_ix (d_var (i := 8) rfl (.inl rfl)) d_int (fun _ _ => rfl)) d_nil))) (d_bin (o_add (fz := true)) (d_callB c_abs rfl Z.n_abs (by first | rfl | decide +kernel) (d_cons (d_ix x_ix (d_var (i := 7) rfl (.inl rfl)) d_int (fun _ _ => rfl)) d_nil)) (d_callB c_abs rfl Z.n_abs (by first | rfl | decide +kernel) (d_cons (d_ix x_ix (d_var (i := 7) rfl (.inl rfl)) d_int (fun _ _ => rfl)) d_nil))) rfl))
        (s_one (s_if (PW.pt (d_torW (d_tcmp o_lt (d_var (i := 9) rfl (.inl rfl)) d_int rfl) (d_tor1 (PW.pt (d_tandW (d_tcmp (o_eq (hu_eq hr)) (d_var (i := 9) rfl (.inl rfl)) d_int rfl) (d_tandW (d_tru (d_var (i := 10) rfl (.inl rfl))) (d_tand1 (d_tcmp o_gt (d_bin (o_add (fz := true)) (d_bin o_mul (d_ix x_ix (d_var (i := 7) rfl (.inl rfl)) d_int (fun _ _ => rfl)) (d_ix x_ix (d_var (i := 8) rfl (.inl rfl)) d_int (fun _ _ => rfl))) (d_bin o_mul (d_ix x_ix (d_var (i := 7) rfl (.inl rfl)) d_int (fun _ _ => rfl)) (d_ix x_ix (d_var (i := 8) rfl (.inl rfl)) d_int (fun _ _ => rfl)))) d_int rfl)))))))) (s_one (s_set (i := 5) sc__law_hull.nd rfl (.inl rfl) (d_var (i := 6) rfl (.inl rfl)))) s_nil))))))
      (s_cons (s_set (i := 2) sc__law_hull.nd rfl (.inl rfl) (d_var (i := 5) rfl (.inl rfl)))
      (s_one (s_if (d_tcmp (o_eq (hu_eq hr)) (d_var (i := 2) rfl (.inl rfl)) (d_ix x_ix (d_var (i := 1) rfl (.inl rfl)) d_int (fun _ _ => rfl)) rfl) (s_one s_break) s_nil)))))))
    (s_one (s_ret (d_if (d_tcmp o_gt (d_callB c_len rfl Z.n_len (by first | rfl | decide +kernel) (d_cons (d_var (i := 3) rfl (.inl rfl)) d_nil)) d_int rfl) (d_callTy c_tuple rfl Z.n_tuple (by first | rfl | decide +kernel) (d_cons (d_var (i := 3) rfl (.inl rfl)) d_nil)) d_none)))))))
/-! ### _law_part -/
noncomputable def b__law_part_e0 (F__law_take : FM) (F__law_some : FM) (F__law_hull : FM) (ds : Sl) (G : Ms) : ER DV :=
    (callE tupF (consA (binE subF (fnE F__law_take (consA (varE 0) (consA (kE (.int 19)) nilA))) (kE (.int 6))) (consA (binE subF (fnE F__law_take (consA (varE 0) (consA (kE (.int 19)) nilA))) (kE (.int 6))) nilA))) ds G
noncomputable def b__law_part_e1 (F__law_take : FM) (F__law_some : FM) (F__law_hull : FM) (ds : Sl) (G : Ms) : ER DV :=
    (callE tupF (consA (binE subF (kE (.int 0)) (varE 9)) (consA (binE subF (kE (.int 0)) (varE 10)) nilA))) ds G
noncomputable def b__law_part_f2 (F__law_take : FM) (F__law_some : FM) (F__law_hull : FM) (ds : Sl) (G : Ms) : SR :=
    (seqS (asgS (lcE true [8] (iterA range1F (consA (binE (addF true) (kE (.int 3)) (fnE F__law_take (consA (varE 0) (consA (binE subF (varE 1) (kE (.int 2))) nilA)))) nilA)) (nameT 8) yesB (b__law_part_e0 F__law_take F__law_some F__law_hull)) (nameT 5))
      (seqS (ifS (andB (valB (binE (eqF false) (varE 2) (kE (.int 2)))) (valB (binE gtF (varE 1) (kE (.int 5))))) (asgS (binE (addF true) (sliceE true (varE 5) noO (theO (kE (.int 3)))) (lcE true [9, 10] (iterE seqI (sliceE true (varE 5) noO (theO (kE (.int 3))))) (tupT 2 (consT (nameT 9) (consT (nameT 10) nilT))) yesB (b__law_part_e1 F__law_take F__law_some F__law_hull))) (nameT 5)) skipS)
      (seqS (asgS (fnE F__law_hull (consA (varE 5) nilA)) (nameT 7))
      (ifS (andB (valB (binE (isNF true) (varE 7) (kE .none))) (valB (binE leF (callE lenF (consA (varE 7) nilA)) (varE 1)))) (retS (varE 7)) skipS)))) ds G
noncomputable def b__law_part (F__law_take : FM) (F__law_some : FM) (F__law_hull : FM) : SM :=
    (seqS (asgS (fnE F__law_take (consA (varE 0) (consA (kE (.int 6)) nilA))) (nameT 2))
    (seqS (ifS (valB (binE (eqF false) (varE 2) (kE (.int 0)))) (seqS (parS 3 4 (binE (addF true) (kE (.int 1)) (fnE F__law_take (consA (varE 0) (consA (kE (.int 6)) nilA)))) (binE (addF true) (kE (.int 1)) (fnE F__law_take (consA (varE 0) (consA (kE (.int 6)) nilA)))))
      (retS (fnE F__law_some (consA (varE 0) (consA (callE (listF true) (consA (callE tupF (consA (callE tupF (consA (kE (.int 0)) (consA (kE (.int 0)) nilA))) (consA (callE tupF (consA (varE 3) (consA (kE (.int 0)) nilA))) (consA (callE tupF (consA (varE 3) (consA (varE 4) nilA))) (consA (callE tupF (consA (kE (.int 0)) (consA (varE 4) nilA))) nilA))))) (consA (callE tupF (consA (callE tupF (consA (kE (.int 0)) (consA (kE (.int 0)) nilA))) (consA (callE tupF (consA (varE 3) (consA (kE (.int 0)) nilA))) (consA (callE tupF (consA (varE 3) (consA (varE 3) nilA))) (consA (callE tupF (consA (kE (.int 0)) (consA (varE 3) nilA))) nilA))))) (consA (callE tupF (consA (callE tupF (consA (kE (.int 0)) (consA (kE (.int 0)) nilA))) (consA (callE tupF (consA (varE 3) (consA (unE negF (varE 4)) nilA))) (consA (callE tupF (consA (binE (addF true) (varE 3) (varE 4)) (consA (binE subF (varE 3) (varE 4)) nilA))) (consA (callE tupF (consA (varE 4) (consA (varE 3) nilA))) nilA))))) nilA)))) nilA))))) skipS)
    (seqS (ifS (valB (binE (eqF false) (varE 2) (kE (.int 1)))) (seqS (parS 3 4 (binE (addF true) (kE (.int 2)) (fnE F__law_take (consA (varE 0) (consA (kE (.int 5)) nilA)))) (binE (addF true) (kE (.int 1)) (fnE F__law_take (consA (varE 0) (consA (kE (.int 3)) nilA)))))
      (seqS (asgS (binE (addF true) (callE (listF true) (consA (callE tupF (consA (varE 3) (consA (varE 4) nilA))) (consA (callE tupF (consA (unE negF (varE 4)) (consA (varE 3) nilA))) (consA (callE tupF (consA (unE negF (varE 3)) (consA (unE negF (varE 4)) nilA))) (consA (callE tupF (consA (varE 4) (consA (unE negF (varE 3)) nilA))) nilA))))) (ifE (valB (binE gtF (varE 1) (kE (.int 7)))) (callE (listF true) (consA (callE tupF (consA (varE 3) (consA (unE negF (varE 4)) nilA))) (consA (callE tupF (consA (varE 4) (consA (varE 3) nilA))) (consA (callE tupF (consA (unE negF (varE 3)) (consA (varE 4) nilA))) (consA (callE tupF (consA (unE negF (varE 4)) (consA (unE negF (varE 3)) nilA))) nilA))))) (callE (listF true) nilA))) (nameT 5))
      (retS (fnE F__law_hull (consA (varE 5) nilA))))) skipS)
    (seqS (forS (iterA range1F (consA (kE (.int 9)) nilA)) (nameT 6) (b__law_part_f2 F__law_take F__law_some F__law_hull))
    (retS (callE tupF (consA (callE tupF (consA (kE (.int 0)) (consA (kE (.int 0)) nilA))) (consA (callE tupF (consA (kE (.int 7)) (consA (kE (.int 0)) nilA))) (consA (callE tupF (consA (kE (.int 2)) (consA (kE (.int 4)) nilA))) nilA)))))))))
theorem t__law_part {F__law_take : FM} {F__law_some : FM} {F__law_hull : FM} (Z : Tx K mg ad) (c__law_take : Cal P w K mg base T 2 "_law_take" ["bag", "many"] F__law_take) (c__law_some : Cal P w K mg base T 3 "_law_some" ["bag", "things"] F__law_some) (c__law_hull : Cal P w K mg base T 3 "_law_hull" ["spots"] F__law_hull) : Cal P w K mg base T 4 "_law_part" ["bag", "most"] (defW cutM 11 (b__law_part F__law_take F__law_some F__law_hull)) :=
  cal_of cutM_ok Z.f__law_part sc__law_part fun cdv A outer s H E W hr tk hp =>
    (s_cons (s_set (i := 2) sc__law_part.nd rfl (.inl rfl) (d_callC c__law_take tk hr (by decide) rfl (d_cons (d_var (i := 0) rfl (.inr (.inl rfl))) (d_cons d_int d_nil)) (lenA_cons (lenA_cons lenA_nil))))
    (s_cons (s_if (d_tcmp (o_eq (hu_eq hr)) (d_var (i := 2) rfl (.inl rfl)) d_int rfl) (s_cons (s_par (i := 3) (j := 4) rfl sc__law_part.nd rfl rfl (by decide) rfl rfl (d_bin (o_add (fz := true)) d_int (d_callC c__law_take tk hr (by decide) rfl (d_cons (d_var (i := 0) rfl (.inr (.inl rfl))) (d_cons d_int d_nil)) (lenA_cons (lenA_cons lenA_nil)))) (d_bin (o_add (fz := true)) d_int (d_callC c__law_take tk hr (by decide) rfl (d_cons (d_var (i := 0) rfl (.inr (.inl rfl))) (d_cons d_int d_nil)) (lenA_cons (lenA_cons lenA_nil)))) (by first | rfl | decide +kernel))
      (s_one (s_ret (d_callC c__law_some tk hr (by decide) rfl (d_cons (d_var (i := 0) rfl (.inr (.inl rfl))) (d_cons (d_list (fz := true) (d_cons (d_tup (d_cons (d_tup (d_cons d_int (d_cons d_int d_nil))) (d_cons (d_tup (d_cons (d_var (i := 3) rfl (.inl rfl)) (d_cons d_int d_nil))) (d_cons (d_tup (d_cons (d_var (i := 3) rfl (.inl rfl)) (d_cons (d_var (i := 4) rfl (.inl rfl)) d_nil))) (d_cons (d_tup (d_cons d_int (d_cons (d_var (i := 4) rfl (.inl rfl)) d_nil))) d_nil))))) (d_cons (d_tup (d_cons (d_tup (d_cons d_int (d_cons d_int d_nil))) (d_cons (d_tup (d_cons (d_var (i := 3) rfl (.inl rfl)) (d_cons d_int d_nil))) (d_cons (d_tup (d_cons (d_var (i := 3) rfl (.inl rfl)) (d_cons (d_var (i := 3) rfl (.inl rfl)) d_nil))) (d_cons (d_tup (d_cons d_int (d_cons (d_var (i := 3) rfl (.inl rfl)) d_nil))) d_nil))))) (d_cons (d_tup (d_cons (d_tup (d_cons d_int (d_cons d_int d_nil))) (d_cons (d_tup (d_cons (d_var (i := 3) rfl (.inl rfl)) (d_cons (d_un u_neg (d_var (i := 4) rfl (.inl rfl))) d_nil))) (d_cons (d_tup (d_cons (d_bin (o_add (fz := true)) (d_var (i := 3) rfl (.inl rfl)) (d_var (i := 4) rfl (.inl rfl))) (d_cons (d_bin o_sub (d_var (i := 3) rfl (.inl rfl)) (d_var (i := 4) rfl (.inl rfl))) d_nil))) (d_cons (d_tup (d_cons (d_var (i := 4) rfl (.inl rfl)) (d_cons (d_var (i := 3) rfl (.inl rfl)) d_nil))) d_nil))))) d_nil)))) d_nil)) (lenA_cons (lenA_cons lenA_nil)))))) s_nil)
    (s_cons (s_if (d_tcmp (o_eq (hu_eq hr)) (d_var (i := 2) rfl (.inl rfl)) d_int rfl) (s_cons (s_par (i := 3) (j := 4) rfl sc__law_part.nd rfl rfl (by decide) rfl rfl (d_bin (o_add (fz := true)) d_int (d_callC c__law_take tk hr (by decide) rfl (d_cons (d_var (i := 0) rfl (.inr (.inl rfl))) (d_cons d_int d_nil)) (lenA_cons (lenA_cons lenA_nil)))) (d_bin (o_add (fz := true)) d_int (d_callC c__law_take tk hr (by decide) rfl (d_cons (d_var (i := 0) rfl (.inr (.inl rfl))) (d_cons d_int d_nil)) (lenA_cons (lenA_cons lenA_nil)))) (by first | rfl | decide +kernel))
      (s_cons (s_set (i := 5) sc__law_part.nd rfl (.inl rfl) (d_bin (o_add (fz := true)) (d_list (fz := true) (d_cons (d_tup (d_cons (d_var (i := 3) rfl (.inl rfl)) (d_cons (d_var (i := 4) rfl (.inl rfl)) d_nil))) (d_cons (d_tup (d_cons (d_un u_neg (d_var (i := 4) rfl (.inl rfl))) (d_cons (d_var (i := 3) rfl (.inl rfl)) d_nil))) (d_cons (d_tup (d_cons (d_un u_neg (d_var (i := 3) rfl (.inl rfl))) (d_cons (d_un u_neg (d_var (i := 4) rfl (.inl rfl))) d_nil))) (d_cons (d_tup (d_cons (d_var (i := 4) rfl (.inl rfl)) (d_cons (d_un u_neg (d_var (i := 3) rfl (.inl rfl))) d_nil))) d_nil))))) (d_if (d_tcmp o_gt (d_var (i := 1) rfl (.inl rfl)) d_int rfl) (d_list (fz := true) (d_cons (d_tup (d_cons (d_var (i := 3) rfl (.inl rfl)) (d_cons (d_un u_neg (d_var (i := 4) rfl (.inl rfl))) d_nil))) (d_cons (d_tup (d_cons (d_var (i := 4) rfl (.inl rfl)) (d_cons (d_var (i := 3) rfl (.inl rfl)) d_nil))) (d_cons (d_tup (d_cons (d_un u_neg (d_var (i := 3) rfl (.inl rfl))) (d_cons (d_var (i := 4) rfl (.inl rfl)) d_nil))) (d_cons (d_tup (d_cons (d_un u_neg (d_var (i := 4) rfl (.inl rfl))) (d_cons (d_un u_neg (d_var (i := 3) rfl (.inl rfl))) d_nil))) d_nil))))) (d_list (fz := true) d_nil))))
      (s_one (s_ret (d_callC c__law_hull tk hr (by decide) rfl (d_cons (d_var (i := 5) rfl (.inl rfl)) d_nil) (lenA_cons lenA_nil)))))) s_nil)
    (s_cons (s_for hp rfl (i_range1 rfl Z.n_range (d_cons d_int d_nil)) (g_name (i := 6) sc__law_part.nd rfl (.inl rfl))
    (s_cons (s_setLc (i := 5) (fz := true) (own := [("k", 8)]) rfl sc__law_part.nd (i_range1 rfl Z.n_range (d_cons (d_bin (o_add (fz := true)) d_int (d_callC c__law_take tk hr (by decide) rfl (d_cons (d_var (i := 0) rfl (.inr (.inl rfl))) (d_cons (d_bin o_sub (d_var (i := 1) rfl (.inl rfl)) d_int) d_nil)) (lenA_cons (lenA_cons lenA_nil)))) d_nil)) (blkOk_by (N := ["bag", "most", "way", "a", "b", "spots", "turn", "found", "k", "x", "y"]) (sc := (defScope s__law_part)) (by decide +kernel)) (fun s H C cl fp => (pg_name (i := 8) sc__law_part.nd rfl (.inl rfl))) (c_name (by decide)) (fun s H C cl fp => pts_yes) (fun s H C cl fp => (d_tup (d_cons (d_bin o_sub (d_callC c__law_take LamX.takes0 hr (by decide) rfl (d_cons (d_var (i := 0) rfl (.inr (.inl rfl))) (d_cons d_int d_nil)) (lenA_cons (lenA_cons lenA_nil))) d_int) (d_cons (d_bin o_sub (d_callC c__law_take LamX.takes0 hr (by decide) rfl (d_cons (d_var (i := 0) rfl (.inr (.inl rfl))) (d_cons d_int d_nil)) (lenA_cons (lenA_cons lenA_nil))) d_int) d_nil)))) rfl rfl (sw_true rfl rfl rfl (by decide +kernel)))
      (s_cons (s_if (PW.pt (d_tandW (d_tcmp (o_eq (hu_eq hr)) (d_var (i := 2) rfl (.inl rfl)) d_int rfl) (d_tand1 (d_tcmp o_gt (d_var (i := 1) rfl (.inl rfl)) d_int rfl)))) (s_one (s_set (i := 5) sc__law_part.nd rfl (.inl rfl) (d_bin (o_add (fz := true)) (d_slice (fz := true) (d_var (i := 5) rfl (.inl rfl)) p_none (p_some d_int)) (d_lc (fz := true) (own := [("x", 9), ("y", 10)]) rfl sc__law_part.nd (i_list (d_slice (fz := true) (d_var (i := 5) rfl (.inl rfl)) p_none (p_some d_int))) (blkOk_by (N := ["bag", "most", "way", "a", "b", "spots", "turn", "found", "k", "x", "y"]) (sc := (defScope s__law_part)) (by decide +kernel)) (fun s H C cl fp => (pg_tup rfl (pgs_cons (pg_name (i := 9) sc__law_part.nd rfl (.inl rfl)) (pgs_cons (pg_name (i := 10) sc__law_part.nd rfl (.inl rfl)) pgs_nil)))) (c_tup (c_cons (c_name (by decide)) (c_cons (c_name (by decide)) c_nil))) (fun s H C cl fp => pts_yes) (fun s H C cl fp => (d_tup (d_cons (d_bin o_sub d_int (d_var (i := 9) rfl (.inl rfl))) (d_cons (d_bin o_sub d_int (d_var (i := 10) rfl (.inl rfl))) d_nil)))))))) s_nil)
      (s_cons (s_set (i := 7) sc__law_part.nd rfl (.inl rfl) (d_callC c__law_hull tk hr (by decide) rfl (d_cons (d_var (i := 5) rfl (.inl rfl)) d_nil) (lenA_cons lenA_nil)))
      (s_one (s_if (PW.pt (d_tandW (d_tcmp o_notN (d_var (i := 7) rfl (.inl rfl)) d_none rfl) (d_tand1 (d_tcmp o_le (d_callB c_len rfl Z.n_len (by first | rfl | decide +kernel) (d_cons (d_var (i := 7) rfl (.inl rfl)) d_nil)) (d_var (i := 1) rfl (.inl rfl)) rfl)))) (s_one (s_ret (d_var (i := 7) rfl (.inl rfl)))) s_nil))))))
    (s_one (s_ret (d_tup (d_cons (d_tup (d_cons d_int (d_cons d_int d_nil))) (d_cons (d_tup (d_cons d_int (d_cons d_int d_nil))) (d_cons (d_tup (d_cons d_int (d_cons d_int d_nil))) d_nil))))))))))
/-! ### law -/
noncomputable def b_law_e0 (F__law_bag : FM) (F__law_part : FM) (F__law_cross : FM) (F__law_alike : FM) (F_frame_of : FM) (F_double_area : FM) (F_sides_of : FM) (F__law_take : FM) (F__law_some : FM) (F__law_gcd : FM) (F__law_hull : FM) (F_is_within : FM) (F_first_on_left : FM) (F_far_along : FM) (F_shifted : FM) (ds : Sl) (G : Ms) : ER DV :=
    (callE tupF (consA (binE subF (binE ixF (varE 9) (kE (.int 0))) (binE ixF (varE 8) (kE (.int 0)))) (consA (binE subF (binE ixF (varE 9) (kE (.int 1))) (binE ixF (varE 8) (kE (.int 1)))) nilA))) ds G
noncomputable def b_law_f1 (F__law_bag : FM) (F__law_part : FM) (F__law_cross : FM) (F__law_alike : FM) (F_frame_of : FM) (F_double_area : FM) (F_sides_of : FM) (F__law_take : FM) (F__law_some : FM) (F__law_gcd : FM) (F__law_hull : FM) (F_is_within : FM) (F_first_on_left : FM) (F_far_along : FM) (F_shifted : FM) (ds : Sl) (G : Ms) : SR :=
    (augS 7 iaddF (fnE F__law_cross (consA (callE tupF (consA (binE subF (binE ixF (varE 8) (kE (.int 0))) (varE 5)) (consA (binE subF (binE ixF (varE 8) (kE (.int 1))) (varE 6)) nilA))) (consA (callE tupF (consA (binE subF (binE ixF (varE 9) (kE (.int 0))) (varE 5)) (consA (binE subF (binE ixF (varE 9) (kE (.int 1))) (varE 6)) nilA))) nilA)))) ds G
noncomputable def b_law_e2 (F__law_bag : FM) (F__law_part : FM) (F__law_cross : FM) (F__law_alike : FM) (F_frame_of : FM) (F_double_area : FM) (F_sides_of : FM) (F__law_take : FM) (F__law_some : FM) (F__law_gcd : FM) (F__law_hull : FM) (F_is_within : FM) (F_first_on_left : FM) (F_far_along : FM) (F_shifted : FM) (ds : Sl) (G : Ms) : ER DV :=
    (binE ixF (varE 25) (kE (.int 0))) ds G
noncomputable def b_law_e3 (F__law_bag : FM) (F__law_part : FM) (F__law_cross : FM) (F__law_alike : FM) (F_frame_of : FM) (F_double_area : FM) (F_sides_of : FM) (F__law_take : FM) (F__law_some : FM) (F__law_gcd : FM) (F__law_hull : FM) (F_is_within : FM) (F_first_on_left : FM) (F_far_along : FM) (F_shifted : FM) (ds : Sl) (G : Ms) : ER DV :=
    (binE ixF (varE 25) (kE (.int 1))) ds G
noncomputable def b_law_f4 (F__law_bag : FM) (F__law_part : FM) (F__law_cross : FM) (F__law_alike : FM) (F_frame_of : FM) (F_double_area : FM) (F_sides_of : FM) (F__law_take : FM) (F__law_some : FM) (F__law_gcd : FM) (F__law_hull : FM) (F_is_within : FM) (F_first_on_left : FM) (F_far_along : FM) (F_shifted : FM) (ds : Sl) (G : Ms) : SR :=
    (seqS (asgS (fnE F__law_hull (consA (binE (addF true) (callE (listOfF true) (consA (varE 3) nilA)) (callE (listF true) (consA (varE 17) nilA))) nilA)) (nameT 18))
        (ifS (notB (truB (fnE F__law_alike (consA (fnE F_is_within (consA (varE 3) (consA (varE 17) nilA))) (consA (binE (eqF false) (varE 18) (varE 3)) nilA))))) (retS (kE (.bool false))) skipS)) ds G
noncomputable def b_law_e5 (F__law_bag : FM) (F__law_part : FM) (F__law_cross : FM) (F__law_alike : FM) (F_frame_of : FM) (F_double_area : FM) (F_sides_of : FM) (F__law_take : FM) (F__law_some : FM) (F__law_gcd : FM) (F__law_hull : FM) (F_is_within : FM) (F_first_on_left : FM) (F_far_along : FM) (F_shifted : FM) (ds : Sl) (G : Ms) : ER DV :=
    (binE (addF true) (binE mulF (binE ixF (varE 19) (kE (.int 0))) (binE ixF (varE 25) (kE (.int 0)))) (binE mulF (binE ixF (varE 19) (kE (.int 1))) (binE ixF (varE 25) (kE (.int 1))))) ds G
noncomputable def b_law_e6 (F__law_bag : FM) (F__law_part : FM) (F__law_cross : FM) (F__law_alike : FM) (F_frame_of : FM) (F_double_area : FM) (F_sides_of : FM) (F__law_take : FM) (F__law_some : FM) (F__law_gcd : FM) (F__law_hull : FM) (F_is_within : FM) (F_first_on_left : FM) (F_far_along : FM) (F_shifted : FM) (ds : Sl) (G : Ms) : ER DV :=
    (fnE F__law_cross (consA (varE 19) (consA (varE 25) nilA))) ds G
noncomputable def b_law_e7 (F__law_bag : FM) (F__law_part : FM) (F__law_cross : FM) (F__law_alike : FM) (F_frame_of : FM) (F_double_area : FM) (F_sides_of : FM) (F__law_take : FM) (F__law_some : FM) (F__law_gcd : FM) (F__law_hull : FM) (F_is_within : FM) (F_first_on_left : FM) (F_far_along : FM) (F_shifted : FM) (ds : Sl) (G : Ms) : ER DV :=
    (callE tupF (consA (binE (addF true) (varE 26) (binE ixF (varE 22) (kE (.int 0)))) (consA (binE (addF true) (varE 27) (binE ixF (varE 22) (kE (.int 1)))) nilA))) ds G
noncomputable def b_law_e8 (F__law_bag : FM) (F__law_part : FM) (F__law_cross : FM) (F__law_alike : FM) (F_frame_of : FM) (F_double_area : FM) (F_sides_of : FM) (F__law_take : FM) (F__law_some : FM) (F__law_gcd : FM) (F__law_hull : FM) (F_is_within : FM) (F_first_on_left : FM) (F_far_along : FM) (F_shifted : FM) (ds : Sl) (G : Ms) : ER DV :=
    (varE 13) ds G
noncomputable def b_law_c9 (F__law_bag : FM) (F__law_part : FM) (F__law_cross : FM) (F__law_alike : FM) (F_frame_of : FM) (F_double_area : FM) (F_sides_of : FM) (F__law_take : FM) (F__law_some : FM) (F__law_gcd : FM) (F__law_hull : FM) (F_is_within : FM) (F_first_on_left : FM) (F_far_along : FM) (F_shifted : FM) (ds : Sl) (G : Ms) : ER Bool :=
    (orB (valB (binE gtF (callE absF (consA (varE 26) nilA)) (kE (.int 99)))) (valB (binE gtF (callE absF (consA (varE 27) nilA)) (kE (.int 99))))) ds G
noncomputable def b_law_f10 (F__law_bag : FM) (F__law_part : FM) (F__law_cross : FM) (F__law_alike : FM) (F_frame_of : FM) (F_double_area : FM) (F_sides_of : FM) (F__law_take : FM) (F__law_some : FM) (F__law_gcd : FM) (F__law_hull : FM) (F_is_within : FM) (F_first_on_left : FM) (F_far_along : FM) (F_shifted : FM) (ds : Sl) (G : Ms) : SR :=
    (seqS (asgS (fnE F__law_part (consA (varE 1) (consA (kE (.int 8)) nilA))) (nameT 3))
      (seqS (asgS (callE tupleF (consA (lcE true [8, 9] (iterA zipF (consA (varE 3) (consA (binE (addF true) (sliceE true (varE 3) (theO (kE (.int 1))) noO) (sliceE true (varE 3) noO (theO (kE (.int 1))))) nilA))) (tupT 2 (consT (nameT 8) (consT (nameT 9) nilT))) yesB (b_law_e0 F__law_bag F__law_part F__law_cross F__law_alike F_frame_of F_double_area F_sides_of F__law_take F__law_some F__law_gcd F__law_hull F_is_within F_first_on_left F_far_along F_shifted)) nilA)) (nameT 4))
      (seqS (asgS (binE ixF (varE 3) (kE (.int 0))) (tupT 2 (consT (nameT 5) (consT (nameT 6) nilT))))
      (seqS (asgS (kE (.int 0)) (nameT 7))
      (seqS (forS (iterA zipF (consA (sliceE true (varE 3) (theO (kE (.int 1))) noO) (consA (sliceE true (varE 3) (theO (kE (.int 2))) noO) nilA))) (tupT 2 (consT (nameT 8) (consT (nameT 9) nilT))) (b_law_f1 F__law_bag F__law_part F__law_cross F__law_alike F_frame_of F_double_area F_sides_of F__law_take F__law_some F__law_gcd F__law_hull F_is_within F_first_on_left F_far_along F_shifted))
      (seqS (parS 10 11 (lcE true [25] (iterE tupI (varE 3)) (nameT 25) yesB (b_law_e2 F__law_bag F__law_part F__law_cross F__law_alike F_frame_of F_double_area F_sides_of F__law_take F__law_some F__law_gcd F__law_hull F_is_within F_first_on_left F_far_along F_shifted)) (lcE true [25] (iterE tupI (varE 3)) (nameT 25) yesB (b_law_e3 F__law_bag F__law_part F__law_cross F__law_alike F_frame_of F_double_area F_sides_of F__law_take F__law_some F__law_gcd F__law_hull F_is_within F_first_on_left F_far_along F_shifted)))
      (seqS (ifS (orB (notB (truB (fnE F__law_alike (consA (callE (listF true) (consA (fnE F_sides_of (consA (varE 3) nilA)) (consA (fnE F_double_area (consA (varE 3) nilA)) (consA (fnE F_frame_of (consA (varE 3) nilA)) nilA)))) (consA (callE (listF true) (consA (varE 4) (consA (varE 7) (consA (callE tupF (consA (callE minF (consA (varE 10) nilA)) (consA (callE minF (consA (varE 11) nilA)) (consA (callE maxF (consA (varE 10) nilA)) (consA (callE maxF (consA (varE 11) nilA)) nilA))))) nilA)))) nilA))))) (valB (binE leF (varE 7) (kE (.int 0))))) (retS (kE (.bool false))) skipS)
      (seqS (asgS (callE (listF false) (consA (fnE F__law_some (consA (varE 1) (consA (callE (listOfF true) (consA (varE 3) nilA)) nilA))) (consA (callE tupF (consA (binE subF (fnE F__law_take (consA (varE 1) (consA (kE (.int 21)) nilA))) (kE (.int 8))) (consA (binE subF (fnE F__law_take (consA (varE 1) (consA (kE (.int 21)) nilA))) (kE (.int 8))) nilA))) (consA (callE tupF (consA (fnE F__law_take (consA (varE 1) (consA (kE (.int 9)) nilA))) (consA (fnE F__law_take (consA (varE 1) (consA (kE (.int 9)) nilA))) nilA))) nilA)))) (nameT 12))
      (seqS (asgS (fnE F__law_take (consA (varE 1) (consA (callE lenF (consA (varE 3) nilA)) nilA))) (nameT 13))
      (seqS (parS 8 14 (binE ixF (varE 3) (varE 13)) (binE ixF (varE 4) (varE 13)))
      (seqS (asgS (fnE F__law_gcd (consA (binE ixF (varE 14) (kE (.int 0))) (consA (binE ixF (varE 14) (kE (.int 1))) nilA))) (nameT 15))
      (seqS (asgS (fnE F__law_take (consA (varE 1) (consA (binE (addF true) (varE 15) (kE (.int 2))) nilA))) (nameT 16))
      (seqS (dropS (methL appendF (varE 12) (consA (callE tupF (consA (binE (addF true) (binE ixF (varE 8) (kE (.int 0))) (binE mulF (varE 16) (callE intF1 (consA (binE fdivF (binE ixF (varE 14) (kE (.int 0))) (varE 15)) nilA)))) (consA (binE (addF true) (binE ixF (varE 8) (kE (.int 1))) (binE mulF (varE 16) (callE intF1 (consA (binE fdivF (binE ixF (varE 14) (kE (.int 1))) (varE 15)) nilA)))) nilA))) nilA)))
      (seqS (forS (iterE seqI (varE 12)) (nameT 17) (b_law_f4 F__law_bag F__law_part F__law_cross F__law_alike F_frame_of F_double_area F_sides_of F__law_take F__law_some F__law_gcd F__law_hull F_is_within F_first_on_left F_far_along F_shifted))
      (seqS (asgS (callE tupF (consA (binE subF (fnE F__law_take (consA (varE 1) (consA (kE (.int 15)) nilA))) (kE (.int 7))) (consA (binE subF (fnE F__law_take (consA (varE 1) (consA (kE (.int 15)) nilA))) (kE (.int 7))) nilA))) (nameT 19))
      (seqS (asgS (lcE true [25] (iterE tupI (varE 3)) (nameT 25) yesB (b_law_e5 F__law_bag F__law_part F__law_cross F__law_alike F_frame_of F_double_area F_sides_of F__law_take F__law_some F__law_gcd F__law_hull F_is_within F_first_on_left F_far_along F_shifted)) (nameT 20))
      (seqS (asgS (lcE true [25] (iterE tupI (varE 3)) (nameT 25) yesB (b_law_e6 F__law_bag F__law_part F__law_cross F__law_alike F_frame_of F_double_area F_sides_of F__law_take F__law_some F__law_gcd F__law_hull F_is_within F_first_on_left F_far_along F_shifted)) (nameT 21))
      (seqS (ifS (notB (truB (fnE F__law_alike (consA (callE (listF true) (consA (fnE F_far_along (consA (varE 3) (consA (varE 19) nilA))) (consA (fnE F_first_on_left (consA (varE 3) (consA (varE 19) nilA))) nilA))) (consA (callE (listF true) (consA (callE tupF (consA (callE minF (consA (varE 20) nilA)) (consA (callE maxF (consA (varE 20) nilA)) nilA))) (consA (binE ixF (varE 3) (methL indexF (varE 21) (consA (callE maxF (consA (varE 21) nilA)) nilA))) nilA))) nilA))))) (retS (kE (.bool false))) skipS)
      (seqS (asgS (callE tupF (consA (binE subF (fnE F__law_take (consA (varE 1) (consA (kE (.int 61)) nilA))) (kE (.int 30))) (consA (fnE F__law_some (consA (varE 1) (consA (callE (listF true) (consA (kE (.int 0)) (consA (kE (.int 1)) (consA (kE (.int 95)) (consA (unE negF (kE (.int 95))) (consA (binE subF (fnE F__law_take (consA (varE 1) (consA (kE (.int 61)) nilA))) (kE (.int 30))) nilA)))))) nilA))) nilA))) (nameT 22))
      (seqS (asgS (callE tupleF (consA (lcE true [26, 27] (iterE tupI (varE 3)) (tupT 2 (consT (nameT 26) (consT (nameT 27) nilT))) yesB (b_law_e7 F__law_bag F__law_part F__law_cross F__law_alike F_frame_of F_double_area F_sides_of F__law_take F__law_some F__law_gcd F__law_hull F_is_within F_first_on_left F_far_along F_shifted)) nilA)) (nameT 23))
      (seqS (asgS (lcE true [13, 26, 27] (iterE enumTI (varE 23)) (tupT 2 (consT (nameT 13) (consT (tupT 2 (consT (nameT 26) (consT (nameT 27) nilT))) nilT))) (b_law_c9 F__law_bag F__law_part F__law_cross F__law_alike F_frame_of F_double_area F_sides_of F__law_take F__law_some F__law_gcd F__law_hull F_is_within F_first_on_left F_far_along F_shifted) (b_law_e8 F__law_bag F__law_part F__law_cross F__law_alike F_frame_of F_double_area F_sides_of F__law_take F__law_some F__law_gcd F__law_hull F_is_within F_first_on_left F_far_along F_shifted)) (nameT 24))
      (seqS (ifS (notB (truB (fnE F__law_alike (consA (toldE "told" 2 (fnE F_shifted (consA (varE 3) (consA (varE 22) nilA))) h__law_raised) (consA (ifE (valB (binE (eqF false) (varE 24) (callE (listF true) nilA))) (callE tupF (consA (kE (.str "told")) (consA (varE 23) nilA))) (callE tupF (consA (kE (.str "part")) (consA (binE ixF (varE 24) (kE (.int 0))) (consA (kE (.str "far")) nilA))))) nilA))))) (retS (kE (.bool false))) skipS)
      (ifS (andB (valB (binE (eqF false) (varE 24) (callE (listF true) nilA))) (orB (valB (binE (eqF true) (fnE F_double_area (consA (varE 23) nilA)) (varE 7))) (valB (binE (eqF true) (fnE F_sides_of (consA (varE 23) nilA)) (varE 4))))) (retS (kE (.bool false))) skipS))))))))))))))))))))))) ds G
noncomputable def b_law (F__law_bag : FM) (F__law_part : FM) (F__law_cross : FM) (F__law_alike : FM) (F_frame_of : FM) (F_double_area : FM) (F_sides_of : FM) (F__law_take : FM) (F__law_some : FM) (F__law_gcd : FM) (F__law_hull : FM) (F_is_within : FM) (F_first_on_left : FM) (F_far_along : FM) (F_shifted : FM) : SM :=
    (seqS (asgS (fnE F__law_bag (consA (varE 0) nilA)) (nameT 1))
    (seqS (forS (iterA range1F (consA (kE (.int 10)) nilA)) (nameT 2) (b_law_f10 F__law_bag F__law_part F__law_cross F__law_alike F_frame_of F_double_area F_sides_of F__law_take F__law_some F__law_gcd F__law_hull F_is_within F_first_on_left F_far_along F_shifted))
    (retS (kE (.bool true)))))
abbrev TT (ad : Ad) : List (Addr × Str) := [(ad.tab, (("law" : Str) ++ ".<locals>.") ++ "<lambda>")]
theorem t_law {F__law_bag : FM} {F__law_part : FM} {F__law_cross : FM} {F__law_alike : FM} {F_frame_of : FM} {F_double_area : FM} {F_sides_of : FM} {F__law_take : FM} {F__law_some : FM} {F__law_gcd : FM} {F__law_hull : FM} {F_is_within : FM} {F_first_on_left : FM} {F_far_along : FM} {F_shifted : FM} (Z : Tx K mg ad) (TB : TabB base mg ad.c_law ad.tab) (c__law_bag : Cal P w K mg base (TT ad) 2 "_law_bag" ["script"] F__law_bag) (c__law_part : Cal P w K mg base (TT ad) 4 "_law_part" ["bag", "most"] F__law_part) (c__law_cross : Cal P w K mg base (TT ad) 2 "_law_cross" ["one", "other"] F__law_cross) (c__law_alike : CalG P w K mg base (TT ad) 2 "_law_alike" ["found", "due"] F__law_alike) (c_frame_of : Cal P w K mg base (TT ad) 2 "frame_of" ["part"] F_frame_of) (c_double_area : Cal P w K mg base (TT ad) 2 "double_area" ["part"] F_double_area) (c_sides_of : Cal P w K mg base (TT ad) 2 "sides_of" ["part"] F_sides_of) (c__law_take : Cal P w K mg base (TT ad) 2 "_law_take" ["bag", "many"] F__law_take) (c__law_some : Cal P w K mg base (TT ad) 3 "_law_some" ["bag", "things"] F__law_some) (c__law_gcd : Cal P w K mg base (TT ad) 2 "_law_gcd" ["a", "b"] F__law_gcd) (c__law_hull : Cal P w K mg base (TT ad) 3 "_law_hull" ["spots"] F__law_hull) (c_is_within : Cal P w K mg base (TT ad) 3 "is_within" ["part", "point"] F_is_within) (c_first_on_left : Cal P w K mg base (TT ad) 2 "first_on_left" ["part", "way"] F_first_on_left) (c_far_along : Cal P w K mg base (TT ad) 2 "far_along" ["part", "way"] F_far_along) (c_shifted : Cal P w K mg base (TT ad) 7 "shifted" ["part", "by"] F_shifted) : CalG P w K mg base (TT ad) 10 "law" ["script"] (defW cutM 28 (b_law F__law_bag F__law_part F__law_cross F__law_alike F_frame_of F_double_area F_sides_of F__law_take F__law_some F__law_gcd F__law_hull F_is_within F_first_on_left F_far_along F_shifted)) :=
  calGC_of cutM_ok Z.f_law sc_law fun A outer s H E W hgd hr tk hp =>
    (s_cons (s_set (i := 1) sc_law.nd rfl (.inl rfl) (d_callC c__law_bag tk hr (by decide) rfl (d_cons (d_var (i := 0) rfl (.inl rfl)) d_nil) (lenA_cons lenA_nil)))
    (s_cons (s_for hp rfl (i_range1 rfl Z.n_range (d_cons d_int d_nil)) (g_name (i := 2) sc_law.nd rfl (.inl rfl))
    (s_cons (s_set (i := 3) sc_law.nd rfl (.inr rfl) (d_callC c__law_part tk hr (by decide) rfl (d_cons (d_var (i := 1) rfl (.inl rfl)) (d_cons d_int d_nil)) (lenA_cons (lenA_cons lenA_nil))))
      (s_cons (s_set (i := 4) sc_law.nd rfl (.inl rfl) (d_callTy c_tuple rfl Z.n_tuple (by first | rfl | decide +kernel) (d_cons (d_lc (fz := true) (own := [("one", 8), ("other", 9)]) rfl sc_law.nd (i_zip rfl Z.n_zip (d_cons (d_var (i := 3) rfl (.inr (.inl rfl))) (d_cons (d_bin (o_add (fz := true)) (d_slice (fz := true) (d_var (i := 3) rfl (.inr (.inl rfl))) (p_some d_int) p_none) (d_slice (fz := true) (d_var (i := 3) rfl (.inr (.inl rfl))) p_none (p_some d_int))) d_nil))) (blkOk_by (N := ["script", "bag", "lap", "part", "sides", "x", "y", "area", "one", "other", "xs", "ys", "some", "k", "side", "many", "step", "spot", "larger", "way", "rows", "lefts", "by", "moved", "far", "corner", "a", "b"]) (sc := (defScope s_law)) (by decide +kernel)) (fun s H C cl fp => (pg_tup rfl (pgs_cons (pg_name (i := 8) sc_law.nd rfl (.inl rfl)) (pgs_cons (pg_name (i := 9) sc_law.nd rfl (.inl rfl)) pgs_nil)))) (c_tup (c_cons (c_name (by decide)) (c_cons (c_name (by decide)) c_nil))) (fun s H C cl fp => pts_yes) (fun s H C cl fp => (d_tup (d_cons (d_bin o_sub (d_ix x_ix (d_var (i := 9) rfl (.inl rfl)) d_int (fun _ _ => rfl)) (d_ix x_ix (d_var (i := 8) rfl (.inl rfl)) d_int (fun _ _ => rfl))) (d_cons (d_bin o_sub (d_ix x_ix (d_var (i := 9) rfl (.inl rfl)) d_int (fun _ _ => rfl)) (d_ix x_ix (d_var (i := 8) rfl (.inl rfl)) d_int (fun _ _ => rfl))) d_nil))))) d_nil)))
      (s_cons (s_asg (d_ix x_ix (d_var (i := 3) rfl (.inr (.inl rfl))) d_int (fun _ _ => rfl)) (g_tup rfl (g_cons (g_name (i := 5) sc_law.nd rfl (.inl rfl)) (g_cons (g_name (i := 6) sc_law.nd rfl (.inl rfl)) g_nil))))
      (s_cons (s_set (i := 7) sc_law.nd rfl (.inl rfl) d_int)
      (s_cons (s_for hp rfl (i_zip rfl Z.n_zip (d_cons (d_slice (fz := true) (d_var (i := 3) rfl (.inr (.inl rfl))) (p_some d_int) p_none) (d_cons (d_slice (fz := true) (d_var (i := 3) rfl (.inr (.inl rfl))) (p_some d_int) p_none) d_nil))) (g_tup rfl (g_cons (g_name (i := 8) sc_law.nd rfl (.inl rfl)) (g_cons (g_name (i := 9) sc_law.nd rfl (.inl rfl)) g_nil)))
      (s_one (s_aug (i := 7) sc_law.nd rfl (.inl rfl) (d_callC c__law_cross tk hr (by decide) rfl (d_cons (d_tup (d_cons (d_bin o_sub (d_ix x_ix (d_var (i := 8) rfl (.inl rfl)) d_int (fun _ _ => rfl)) (d_var (i := 5) rfl (.inl rfl))) (d_cons (d_bin o_sub (d_ix x_ix (d_var (i := 8) rfl (.inl rfl)) d_int (fun _ _ => rfl)) (d_var (i := 6) rfl (.inl rfl))) d_nil))) (d_cons (d_tup (d_cons (d_bin o_sub (d_ix x_ix (d_var (i := 9) rfl (.inl rfl)) d_int (fun _ _ => rfl)) (d_var (i := 5) rfl (.inl rfl))) (d_cons (d_bin o_sub (d_ix x_ix (d_var (i := 9) rfl (.inl rfl)) d_int (fun _ _ => rfl)) (d_var (i := 6) rfl (.inl rfl))) d_nil))) d_nil)) (lenA_cons (lenA_cons lenA_nil))) io_add)))
      (s_cons (s_par (i := 10) (j := 11) rfl sc_law.nd rfl rfl (by decide) rfl rfl (d_lc (fz := true) (own := [("corner", 25)]) rfl sc_law.nd (i_tup (d_var (i := 3) rfl (.inr (.inl rfl)))) (blkOk_by (N := ["script", "bag", "lap", "part", "sides", "x", "y", "area", "one", "other", "xs", "ys", "some", "k", "side", "many", "step", "spot", "larger", "way", "rows", "lefts", "by", "moved", "far", "corner", "a", "b"]) (sc := (defScope s_law)) (by decide +kernel)) (fun s H C cl fp => (pg_name (i := 25) sc_law.nd rfl (.inl rfl))) (c_name (by decide)) (fun s H C cl fp => pts_yes) (fun s H C cl fp => (d_ix x_ix (d_var (i := 25) rfl (.inl rfl)) d_int (fun _ _ => rfl)))) (d_lc (fz := true) (own := [("corner", 25)]) rfl sc_law.nd (i_tup (d_var (i := 3) rfl (.inr (.inl rfl)))) (blkOk_by (N := ["script", "bag", "lap", "part", "sides", "x", "y", "area", "one", "other", "xs", "ys", "some", "k", "side", "many", "step", "spot", "larger", "way", "rows", "lefts", "by", "moved", "far", "corner", "a", "b"]) (sc := (defScope s_law)) (by decide +kernel)) (fun s H C cl fp => (pg_name (i := 25) sc_law.nd rfl (.inl rfl))) (c_name (by decide)) (fun s H C cl fp => pts_yes) (fun s H C cl fp => (d_ix x_ix (d_var (i := 25) rfl (.inl rfl)) d_int (fun _ _ => rfl)))) (by first | rfl | decide +kernel))
      (s_cons (s_if (PW.pt (d_torW (d_tnot (d_tru (d_callGC c__law_alike hgd tk hr (by decide) rfl (d_cons (d_list (fz := true) (d_cons (d_callC c_sides_of tk hr (by decide) rfl (d_cons (d_var (i := 3) rfl (.inr (.inl rfl))) d_nil) (lenA_cons lenA_nil)) (d_cons (d_callC c_double_area tk hr (by decide) rfl (d_cons (d_var (i := 3) rfl (.inr (.inl rfl))) d_nil) (lenA_cons lenA_nil)) (d_cons (d_callC c_frame_of tk hr (by decide) rfl (d_cons (d_var (i := 3) rfl (.inr (.inl rfl))) d_nil) (lenA_cons lenA_nil)) d_nil)))) (d_cons (d_list (fz := true) (d_cons (d_var (i := 4) rfl (.inl rfl)) (d_cons (d_var (i := 7) rfl (.inl rfl)) (d_cons (d_tup (d_cons (d_callB (c_min rfl) rfl Z.n_min (by first | rfl | decide +kernel) (d_cons (d_var (i := 10) rfl (.inl rfl)) d_nil)) (d_cons (d_callB (c_min rfl) rfl Z.n_min (by first | rfl | decide +kernel) (d_cons (d_var (i := 11) rfl (.inl rfl)) d_nil)) (d_cons (d_callB (c_max rfl) rfl Z.n_max (by first | rfl | decide +kernel) (d_cons (d_var (i := 10) rfl (.inl rfl)) d_nil)) (d_cons (d_callB (c_max rfl) rfl Z.n_max (by first | rfl | decide +kernel) (d_cons (d_var (i := 11) rfl (.inl rfl)) d_nil)) d_nil))))) d_nil)))) d_nil)) (lenA_cons (lenA_cons lenA_nil))))) (d_tor1 (d_tcmp o_le (d_var (i := 7) rfl (.inl rfl)) d_int rfl)))) (s_one (s_ret d_bool)) s_nil)
      (s_cons (s_set (i := 12) sc_law.nd rfl (.inl rfl) (d_list (fz := false) (d_cons (d_callC c__law_some tk hr (by decide) rfl (d_cons (d_var (i := 1) rfl (.inl rfl)) (d_cons (d_callTy (c_list (fz := true)) rfl Z.n_list (by first | rfl | decide +kernel) (d_cons (d_var (i := 3) rfl (.inr (.inl rfl))) d_nil)) d_nil)) (lenA_cons (lenA_cons lenA_nil))) (d_cons (d_tup (d_cons (d_bin o_sub (d_callC c__law_take tk hr (by decide) rfl (d_cons (d_var (i := 1) rfl (.inl rfl)) (d_cons d_int d_nil)) (lenA_cons (lenA_cons lenA_nil))) d_int) (d_cons (d_bin o_sub (d_callC c__law_take tk hr (by decide) rfl (d_cons (d_var (i := 1) rfl (.inl rfl)) (d_cons d_int d_nil)) (lenA_cons (lenA_cons lenA_nil))) d_int) d_nil))) (d_cons (d_tup (d_cons (d_callC c__law_take tk hr (by decide) rfl (d_cons (d_var (i := 1) rfl (.inl rfl)) (d_cons d_int d_nil)) (lenA_cons (lenA_cons lenA_nil))) (d_cons (d_callC c__law_take tk hr (by decide) rfl (d_cons (d_var (i := 1) rfl (.inl rfl)) (d_cons d_int d_nil)) (lenA_cons (lenA_cons lenA_nil))) d_nil))) d_nil)))))
      (s_cons (s_set (i := 13) sc_law.nd rfl (.inl rfl) (d_callC c__law_take tk hr (by decide) rfl (d_cons (d_var (i := 1) rfl (.inl rfl)) (d_cons (d_callB c_len rfl Z.n_len (by first | rfl | decide +kernel) (d_cons (d_var (i := 3) rfl (.inr (.inl rfl))) d_nil)) d_nil)) (lenA_cons (lenA_cons lenA_nil))))
      (s_cons (s_par (i := 8) (j := 14) rfl sc_law.nd rfl rfl (by decide) rfl rfl (d_ix x_ix (d_var (i := 3) rfl (.inr (.inl rfl))) (d_var (i := 13) rfl (.inl rfl)) (fun _ _ => rfl)) (d_ix x_ix (d_var (i := 4) rfl (.inl rfl)) (d_var (i := 13) rfl (.inl rfl)) (fun _ _ => rfl)) (by first | rfl | decide +kernel))
      (s_cons (s_set (i := 15) sc_law.nd rfl (.inl rfl) (d_callC c__law_gcd tk hr (by decide) rfl (d_cons (d_ix x_ix (d_var (i := 14) rfl (.inl rfl)) d_int (fun _ _ => rfl)) (d_cons (d_ix x_ix (d_var (i := 14) rfl (.inl rfl)) d_int (fun _ _ => rfl)) d_nil)) (lenA_cons (lenA_cons lenA_nil))))
      (s_cons (s_set (i := 16) sc_law.nd rfl (.inl rfl) (d_callC c__law_take tk hr (by decide) rfl (d_cons (d_var (i := 1) rfl (.inl rfl)) (d_cons (d_bin (o_add (fz := true)) (d_var (i := 15) rfl (.inl rfl)) d_int) d_nil)) (lenA_cons (lenA_cons lenA_nil))))
      (s_cons (s_expr (d_meth PySem.F.slot_list_append PySem.F.type_list_append m_append (d_var (i := 12) rfl (.inl rfl)) (d_cons (d_tup (d_cons (d_bin (o_add (fz := true)) (d_ix x_ix (d_var (i := 8) rfl (.inl rfl)) d_int (fun _ _ => rfl)) (d_bin o_mul (d_var (i := 16) rfl (.inl rfl)) (d_callTy c_int rfl Z.n_int (by first | rfl | decide +kernel) (d_cons (d_bin o_fdiv (d_ix x_ix (d_var (i := 14) rfl (.inl rfl)) d_int (fun _ _ => rfl)) (d_var (i := 15) rfl (.inl rfl))) d_nil)))) (d_cons (d_bin (o_add (fz := true)) (d_ix x_ix (d_var (i := 8) rfl (.inl rfl)) d_int (fun _ _ => rfl)) (d_bin o_mul (d_var (i := 16) rfl (.inl rfl)) (d_callTy c_int rfl Z.n_int (by first | rfl | decide +kernel) (d_cons (d_bin o_fdiv (d_ix x_ix (d_var (i := 14) rfl (.inl rfl)) d_int (fun _ _ => rfl)) (d_var (i := 15) rfl (.inl rfl))) d_nil)))) d_nil))) d_nil)))
      (s_cons (s_for hp rfl (i_list (d_var (i := 12) rfl (.inl rfl))) (g_name (i := 17) sc_law.nd rfl (.inl rfl))
      (s_cons (s_set (i := 18) sc_law.nd rfl (.inl rfl) (d_callC c__law_hull tk hr (by decide) rfl (d_cons (d_bin (o_add (fz := true)) (d_callTy (c_list (fz := true)) rfl Z.n_list (by first | rfl | decide +kernel) (d_cons (d_var (i := 3) rfl (.inr (.inl rfl))) d_nil)) (d_list (fz := true) (d_cons (d_var (i := 17) rfl (.inl rfl)) d_nil))) d_nil) (lenA_cons lenA_nil)))
        (s_one (s_if (d_tnot (d_tru (d_callGC c__law_alike hgd tk hr (by decide) rfl (d_cons (d_callC c_is_within tk hr (by decide) rfl (d_cons (d_var (i := 3) rfl (.inr (.inl rfl))) (d_cons (d_var (i := 17) rfl (.inl rfl)) d_nil)) (lenA_cons (lenA_cons lenA_nil))) (d_cons (d_cmp (o_eq (hu_eq hr)) (d_var (i := 18) rfl (.inl rfl)) (d_var (i := 3) rfl (.inr (.inl rfl))) rfl) d_nil)) (lenA_cons (lenA_cons lenA_nil))))) (s_one (s_ret d_bool)) s_nil))))
      (s_cons (s_set (i := 19) sc_law.nd rfl (.inr rfl) (d_tup (d_cons (d_bin o_sub (d_callC c__law_take tk hr (by decide) rfl (d_cons (d_var (i := 1) rfl (.inl rfl)) (d_cons d_int d_nil)) (lenA_cons (lenA_cons lenA_nil))) d_int) (d_cons (d_bin o_sub (d_callC c__law_take tk hr (by decide) rfl (d_cons (d_var (i := 1) rfl (.inl rfl)) (d_cons d_int d_nil)) (lenA_cons (lenA_cons lenA_nil))) d_int) d_nil))))
      (s_cons (s_setLc (i := 20) (fz := true) (own := [("corner", 25)]) rfl sc_law.nd (i_tup (d_var (i := 3) rfl (.inr (.inl rfl)))) (blkOk_by (N := ["script", "bag", "lap", "part", "sides", "x", "y", "area", "one", "other", "xs", "ys", "some", "k", "side", "many", "step", "spot", "larger", "way", "rows", "lefts", "by", "moved", "far", "corner", "a", "b"]) (sc := (defScope s_law)) (by decide +kernel)) (fun s H C cl fp => (pg_name (i := 25) sc_law.nd rfl (.inl rfl))) (c_name (by decide)) (fun s H C cl fp => pts_yes) (fun s H C cl fp => (d_bin (o_add (fz := true)) (d_bin o_mul (d_ix x_ix (d_var (i := 19) rfl (.inr (.inl rfl))) d_int (fun _ _ => rfl)) (d_ix x_ix (d_var (i := 25) rfl (.inl rfl)) d_int (fun _ _ => rfl))) (d_bin o_mul (d_ix x_ix (d_var (i := 19) rfl (.inr (.inl rfl))) d_int (fun _ _ => rfl)) (d_ix x_ix (d_var (i := 25) rfl (.inl rfl)) d_int (fun _ _ => rfl))))) rfl rfl (sw_true rfl rfl rfl (by decide +kernel)))
      (s_cons (s_setLc (i := 21) (fz := true) (own := [("corner", 25)]) rfl sc_law.nd (i_tup (d_var (i := 3) rfl (.inr (.inl rfl)))) (blkOk_by (N := ["script", "bag", "lap", "part", "sides", "x", "y", "area", "one", "other", "xs", "ys", "some", "k", "side", "many", "step", "spot", "larger", "way", "rows", "lefts", "by", "moved", "far", "corner", "a", "b"]) (sc := (defScope s_law)) (by decide +kernel)) (fun s H C cl fp => (pg_name (i := 25) sc_law.nd rfl (.inl rfl))) (c_name (by decide)) (fun s H C cl fp => pts_yes) (fun s H C cl fp => (d_callC c__law_cross LamX.takes0 hr (by decide) rfl (d_cons (d_var (i := 19) rfl (.inr (.inl rfl))) (d_cons (d_var (i := 25) rfl (.inl rfl)) d_nil)) (lenA_cons (lenA_cons lenA_nil)))) rfl rfl (sw_true rfl rfl rfl (by decide +kernel)))
      (s_cons (s_if (d_tnot (d_tru (d_callGC c__law_alike hgd tk hr (by decide) rfl (d_cons (d_list (fz := true) (d_cons (d_callC c_far_along tk hr (by decide) rfl (d_cons (d_var (i := 3) rfl (.inr (.inl rfl))) (d_cons (d_var (i := 19) rfl (.inr (.inl rfl))) d_nil)) (lenA_cons (lenA_cons lenA_nil))) (d_cons (d_callC c_first_on_left tk hr (by decide) rfl (d_cons (d_var (i := 3) rfl (.inr (.inl rfl))) (d_cons (d_var (i := 19) rfl (.inr (.inl rfl))) d_nil)) (lenA_cons (lenA_cons lenA_nil))) d_nil))) (d_cons (d_list (fz := true) (d_cons (d_tup (d_cons (d_callB (c_min rfl) rfl Z.n_min (by first | rfl | decide +kernel) (d_cons (d_var (i := 20) rfl (.inl rfl)) d_nil)) (d_cons (d_callB (c_max rfl) rfl Z.n_max (by first | rfl | decide +kernel) (d_cons (d_var (i := 20) rfl (.inl rfl)) d_nil)) d_nil))) (d_cons (d_ix x_ix (d_var (i := 3) rfl (.inr (.inl rfl))) (d_meth PySem.F.slot_list_index PySem.F.type_list_index m_index (d_var (i := 21) rfl (.inl rfl)) (d_cons (d_callB (c_max rfl) rfl Z.n_max (by first | rfl | decide +kernel) (d_cons (d_var (i := 21) rfl (.inl rfl)) d_nil)) d_nil)) (fun _ _ => rfl)) d_nil))) d_nil)) (lenA_cons (lenA_cons lenA_nil))))) (s_one (s_ret d_bool)) s_nil)
      (s_cons (s_set (i := 22) sc_law.nd rfl (.inr rfl) (d_tup (d_cons (d_bin o_sub (d_callC c__law_take tk hr (by decide) rfl (d_cons (d_var (i := 1) rfl (.inl rfl)) (d_cons d_int d_nil)) (lenA_cons (lenA_cons lenA_nil))) d_int) (d_cons (d_callC c__law_some tk hr (by decide) rfl (d_cons (d_var (i := 1) rfl (.inl rfl)) (d_cons (d_list (fz := true) (d_cons d_int (d_cons d_int (d_cons d_int (d_cons (d_un u_neg d_int) (d_cons (d_bin o_sub (d_callC c__law_take tk hr (by decide) rfl (d_cons (d_var (i := 1) rfl (.inl rfl)) (d_cons d_int d_nil)) (lenA_cons (lenA_cons lenA_nil))) d_int) d_nil)))))) d_nil)) (lenA_cons (lenA_cons lenA_nil))) d_nil))))
      (s_cons (s_set (i := 23) sc_law.nd rfl (.inl rfl) (d_callTy c_tuple rfl Z.n_tuple (by first | rfl | decide +kernel) (d_cons (d_lc (fz := true) (own := [("a", 26), ("b", 27)]) rfl sc_law.nd (i_tup (d_var (i := 3) rfl (.inr (.inl rfl)))) (blkOk_by (N := ["script", "bag", "lap", "part", "sides", "x", "y", "area", "one", "other", "xs", "ys", "some", "k", "side", "many", "step", "spot", "larger", "way", "rows", "lefts", "by", "moved", "far", "corner", "a", "b"]) (sc := (defScope s_law)) (by decide +kernel)) (fun s H C cl fp => (pg_tup rfl (pgs_cons (pg_name (i := 26) sc_law.nd rfl (.inl rfl)) (pgs_cons (pg_name (i := 27) sc_law.nd rfl (.inl rfl)) pgs_nil)))) (c_tup (c_cons (c_name (by decide)) (c_cons (c_name (by decide)) c_nil))) (fun s H C cl fp => pts_yes) (fun s H C cl fp => (d_tup (d_cons (d_bin (o_add (fz := true)) (d_var (i := 26) rfl (.inl rfl)) (d_ix x_ix (d_var (i := 22) rfl (.inr (.inl rfl))) d_int (fun _ _ => rfl))) (d_cons (d_bin (o_add (fz := true)) (d_var (i := 27) rfl (.inl rfl)) (d_ix x_ix (d_var (i := 22) rfl (.inr (.inl rfl))) d_int (fun _ _ => rfl))) d_nil))))) d_nil)))
      (s_cons (s_setLc (i := 24) (fz := true) (own := [("k", 13), ("a", 26), ("b", 27)]) rfl sc_law.nd (i_enumT rfl Z.n_enumerate (d_var (i := 23) rfl (.inl rfl))) (blkOk_by (N := ["script", "bag", "lap", "part", "sides", "x", "y", "area", "one", "other", "xs", "ys", "some", "k", "side", "many", "step", "spot", "larger", "way", "rows", "lefts", "by", "moved", "far", "corner", "a", "b"]) (sc := (defScope s_law)) (by decide +kernel)) (fun s H C cl fp => (pg_tup rfl (pgs_cons (pg_name (i := 13) sc_law.nd rfl (.inl rfl)) (pgs_cons (pg_tup rfl (pgs_cons (pg_name (i := 26) sc_law.nd rfl (.inl rfl)) (pgs_cons (pg_name (i := 27) sc_law.nd rfl (.inl rfl)) pgs_nil))) pgs_nil)))) (c_tup (c_cons (c_name (by decide)) (c_cons (c_tup (c_cons (c_name (by decide)) (c_cons (c_name (by decide)) c_nil))) c_nil))) (fun s H C cl fp => (pts_test (PW.pt (d_torW (d_tcmp o_gt (d_callB c_abs rfl Z.n_abs (by first | rfl | decide +kernel) (d_cons (d_var (i := 26) rfl (.inl rfl)) d_nil)) d_int rfl) (d_tor1 (d_tcmp o_gt (d_callB c_abs rfl Z.n_abs (by first | rfl | decide +kernel) (d_cons (d_var (i := 27) rfl (.inl rfl)) d_nil)) d_int rfl)))))) (fun s H C cl fp => (d_var (i := 13) rfl (.inl rfl))) rfl rfl (sw_true rfl rfl rfl (by decide +kernel)))
      (s_cons (s_if (d_tnot (d_tru (d_callGC c__law_alike hgd tk hr (by decide) rfl (d_cons (d_lamC (k := 7) Z.f__law_raised.choose_spec sc__law_raised rfl (fun s H => (.tell (names_of rfl Z.k_BadPart) Z.t_BadPart rfl rfl Z.k_BadPart Z.xf_BadPart Z.g_BadPart_number Z.g_BadPart_fault ⟨by decide, by decide⟩ rfl rfl .nil)) rfl rfl (.inl rfl) TB rfl (.head _) (fun p hp _ => by rcases List.mem_singleton.mp hp with rfl; rfl) hr (by decide) (lamS_by (sc := (defScope s_law)) (by decide +kernel)) rfl (fun _ _ _ _ _ => rfl) (fun A outer s H E f c' hr => (d_callC c_shifted (takes_of rfl rfl rfl rfl) hr (by decide) rfl (d_cons (d_var (i := 3) rfl (.inr (.inr rfl))) (d_cons (d_var (i := 22) rfl (.inr (.inr rfl))) d_nil)) (lenA_cons (lenA_cons lenA_nil)))) rfl (by decide)) (d_cons (d_if (d_tcmp (o_eq (hu_eq hr)) (d_var (i := 24) rfl (.inl rfl)) (d_list (fz := true) d_nil) rfl) (d_tup (d_cons d_str (d_cons (d_var (i := 23) rfl (.inl rfl)) d_nil))) (d_tup (d_cons d_str (d_cons (d_ix x_ix (d_var (i := 24) rfl (.inl rfl)) d_int (fun _ _ => rfl)) (d_cons d_str d_nil))))) d_nil)) (lenA_cons (lenA_cons lenA_nil))))) (s_one (s_ret d_bool)) s_nil)
      (s_one (s_if (PW.pt (d_tandW (d_tcmp (o_eq (hu_eq hr)) (d_var (i := 24) rfl (.inl rfl)) (d_list (fz := true) d_nil) rfl) (d_tand1 (PW.pt (d_torW (d_tcmp (o_ne (hu_eq hr)) (d_callC c_double_area tk hr (by decide) rfl (d_cons (d_var (i := 23) rfl (.inl rfl)) d_nil) (lenA_cons lenA_nil)) (d_var (i := 7) rfl (.inl rfl)) rfl) (d_tor1 (d_tcmp (o_ne (hu_eq hr)) (d_callC c_sides_of tk hr (by decide) rfl (d_cons (d_var (i := 23) rfl (.inl rfl)) d_nil) (lenA_cons lenA_nil)) (d_var (i := 4) rfl (.inl rfl)) rfl))))))) (s_one (s_ret d_bool)) s_nil)))))))))))))))))))))))))
    (s_one (s_ret d_bool))))
end
end K02
namespace K02
open PySem PySem.Spec PyProof.Rows L2 LamX DL HullM
noncomputable def F_is_number : FM := defW cutM 1 b_is_number
noncomputable def F_is_sized : FM := defW cutM 2 b_is_sized
noncomputable def F_is_couple : FM := defW cutM 1 (b_is_couple F_is_sized F_is_number)
noncomputable def F_is_tuple_of (ad : Ad) : FM := defW cutM 3 (b_is_tuple_of ad F_is_couple)
noncomputable def F_is_corners (ad : Ad) : FM := defW cutM 1 (b_is_corners ad (F_is_tuple_of ad))
noncomputable def F_turn_of : FM := defW cutM 3 b_turn_of
def isNum : PyData → Bool
  | .int _ => true
  | _ => false
def isSized (n : Nat) : PyData → Bool
  | .tuple xs => decide (xs.length = n)
  | _ => false
theorem is_number_eq (x : PyData) (G : Ms) : F_is_number [.d x] G = .ok (.d (.bool (isNum x))) G := by
  unfold F_is_number
  rw [defW_ap]
  cases x <;> simp [b_is_number, tyOf, isSub, isNum]
theorem is_sized_eq (x : PyData) (n : Nat) (G : Ms) : F_is_sized [.d x, .d (.int n)] G = .ok (.d (.bool (isSized n x))) G := by
  unfold F_is_sized
  rw [defW_ap]
  cases x <;> simp [b_is_sized, tyOf, isSub, isSized]
  omega
def isCouple : PyData → Bool
  | .tuple [x, y] => isNum x && isNum y
  | _ => false
theorem is_couple_eq (x : PyData) (G : Ms) : F_is_couple [.d x] G = .ok (.d (.bool (isCouple x))) G := by
  unfold F_is_couple
  rw [defW_ap]
  have h2 : ∀ G, F_is_sized [.d x, .d (.int 2)] G = .ok (.d (.bool (isSized 2 x))) G := is_sized_eq x 2
  simp [b_is_couple, h2]
  cases x with
  | tuple xs =>
    match xs with
    | [] => simp [isSized, isCouple]
    | [_] => simp [isSized, isCouple]
    | [x, y] =>
      simp [isSized, isCouple, is_number_eq]
      cases h : isNum x <;> simp [h]
    | _ :: _ :: _ :: _ => simp [isSized, isCouple]
  | none => simp [isSized, isCouple]
  | bool _ => simp [isSized, isCouple]
  | int _ => simp [isSized, isCouple]
  | str _ => simp [isSized, isCouple]
  | list _ => simp [isSized, isCouple]
  | dict _ => simp [isSized, isCouple]
def Sm (p : Pt) : Prop := p.1.natAbs ≤ 1000000 ∧ p.2.natAbs ≤ 1000000
theorem turn_of_eq (a b c : Pt) (G : Ms) (ha : Sm a) (hb : Sm b) (hc : Sm c) : F_turn_of [.d (ptD a), .d (ptD b), .d (ptD c)] G = .ok (.d (.int (turn a b c))) G := by
  unfold F_turn_of
  rw [defW_ap]
  unfold Sm at *
  have m1 : ∀ G, mulF (.d (.int (b.1 - a.1))) (.d (.int (c.2 - b.2))) G = _ := fun G => mulF_int _ _ G (by omega) (by omega)
  have m2 : ∀ G, mulF (.d (.int (b.2 - a.2))) (.d (.int (c.1 - b.1))) G = _ := fun G => mulF_int _ _ G (by omega) (by omega)
  simp [b_turn_of, m1, m2, turn]
abbrev fu100 : Sl → Ms → Nat := fun _ _ => 100
noncomputable def F_chain : FM := defW cutM 3 (b_chain F_turn_of fu100)
noncomputable def F_hull_of : FM := defW cutM 6 (b_hull_of F_chain)
noncomputable def F_is_hull : FM := defW cutM 1 (b_is_hull F_hull_of)
noncomputable def F_checked_part (ad : Ad) : FM := defW cutM 4 (b_checked_part (F_is_corners ad) F_is_hull)
def isCorners : PyData → Bool
  | .tuple xs => xs.all isCouple
  | _ => false
theorem is_tuple_of_eq (ad : Ad) (x : PyData) (G : Ms) (hx : ∀ xs, x = .tuple xs → xs.length ≤ sizeLine) : F_is_tuple_of ad [.d x, .fn ad.is_couple] G = .ok (.d (.bool (isCorners x))) G := by
  unfold F_is_tuple_of
  rw [defW_ap]
  cases x with
  | tuple xs =>
    have h : ∀ dw, dw = [some (DV.d (.tuple xs)), some (.fn ad.is_couple), none] → compN (nameT 2) yesB (b_is_tuple_of_e0 ad F_is_couple) .pure dw xs [] G = .ok (xs.map fun x => .bool (isCouple x)) G := fun dw e => by
      subst e
      refine compN_map _ _ _ _ G _ xs (fun _ => True.intro) (hx xs rfl) fun x _ H => ?_
      exact ⟨_, rfl, by simp [b_is_tuple_of_e0, is_couple_eq]⟩
    simp [b_is_tuple_of, tyOf, isSub, wipeD, h, isCorners]
  | none => simp [b_is_tuple_of, tyOf, isSub, isCorners]
  | bool _ => simp [b_is_tuple_of, tyOf, isSub, isCorners]
  | int _ => simp [b_is_tuple_of, tyOf, isSub, isCorners]
  | str _ => simp [b_is_tuple_of, tyOf, isSub, isCorners]
  | list _ => simp [b_is_tuple_of, tyOf, isSub, isCorners]
  | dict _ => simp [b_is_tuple_of, tyOf, isSub, isCorners]
theorem is_corners_eq (ad : Ad) (x : PyData) (G : Ms) (hx : ∀ xs, x = .tuple xs → xs.length ≤ sizeLine) : F_is_corners ad [.d x] G = .ok (.d (.bool (isCorners x))) G := by
  unfold F_is_corners
  rw [defW_ap]
  simp [b_is_corners, is_tuple_of_eq ad x _ hx]
/-! ### chain -/
theorem getElem_set_self {α : Type} {l : List α} {n : Nat} {x : α} (h : n < l.length) : (l.set n x)[n]? = some x := by simp [h]
/-- the loop that takes the found away -/
theorem pop_loop (p : Pt) (hp : Sm p) (ps : List PyData) : ∀ (st : List Pt) (fuel : Nat) (G : Ms) (n : Nat), (∀ q ∈ st, Sm q) → st.length < fuel → G[n]? = some (.lst (ptsD st.reverse)) →
    whileN (b_chain_t0 F_turn_of fu100) (b_chain_w1 F_turn_of fu100) fuel [some (.d (.list ps)), some (.mr n), some (.d (ptD p))] G = .nx [some (.d (.list ps)), some (.mr n), some (.d (ptD p))] (G.set n (.lst (ptsD (popC p st).reverse)))
  | st, 0, G, n, _, hf, _ => absurd hf (by omega)
  | [], fuel + 1, G, n, hs, hf, hG => by
    rw [whileN_succ]
    simp [b_chain_t0, lenF_mr n _ G hG, popC]
    exact (set_same hG).symm
  | [q], fuel + 1, G, n, hs, hf, hG => by
    rw [whileN_succ]
    simp [b_chain_t0, lenF_mr n _ G hG, popC]
    exact (set_same hG).symm
  | t :: u :: r, fuel + 1, G, n, hs, hf, hG => by
    have l2 : (1 : Int) < (r.length : Int) + 2 := by omega
    have hT : ∀ G, F_turn_of [.d (ptD u), .d (ptD t), .d (ptD p)] G = _ := fun G => turn_of_eq u t p G (hs u (by simp)) (hs t (by simp)) hp
    have hG2 : G[n]? = some (.lst (ptsD (u :: r).reverse ++ [ptD t])) := by rw [hG]; simp
    rw [whileN_succ]
    simp [b_chain_t0, b_chain_w1, lenF_mr n _ G hG, ixF_mr n _ _ G hG, l2, hT, isL_mr n G _ hG, popF_mr n _ _ G hG2]
    have e : popC p (t :: u :: r) = if turn u t p ≤ 0 then popC p (u :: r) else t :: u :: r := rfl
    rw [e]
    by_cases c : turn u t p ≤ 0
    · rw [if_pos c, if_pos c]
      have ih := pop_loop p hp ps (u :: r) fuel (G.set n (.lst (ptsD (u :: r).reverse))) n (fun q hq => hs q (by simp at hq ⊢; exact .inr hq)) (by simp at hf ⊢; omega) (get_set hG)
      simp at ih
      rw [ih]
    · rw [if_neg c, if_neg c]
      rw [set_same (by rw [hG]; simp)]
theorem popC_len (p : Pt) : ∀ l : List Pt, (popC p l).length ≤ l.length
  | [] => Nat.le_refl _
  | [_] => Nat.le_refl _
  | t :: u :: r => by
    have e : popC p (t :: u :: r) = if turn u t p ≤ 0 then popC p (u :: r) else t :: u :: r := rfl
    rw [e]
    split
    · have := popC_len p (u :: r)
      simp at this ⊢
      omega
    · exact Nat.le_refl _
/-- the loop over the points -/
theorem chain_loop (ps : List PyData) (n : Nat) : ∀ (r st : List Pt) (G : Ms) (o : Option DV), (∀ q ∈ st, Sm q) → (∀ q ∈ r, Sm q) → st.length + r.length < 90 → G[n]? = some (.lst (ptsD st.reverse)) →
    ∃ o', forN (nameT 2) (b_chain_f2 F_turn_of fu100) .pure (ptsD r) [some (.d (.list ps)), some (.mr n), o] G = .nx [some (.d (.list ps)), some (.mr n), o'] (G.set n (.lst (ptsD (chainC st r).reverse)))
  | [], st, G, o, hs, hr, hl, hG => ⟨o, by
    show forN _ _ _ [] _ _ = _
    rw [forN_nilP]
    show _ = SR.nx _ (G.set n (.lst (ptsD st.reverse)))
    rw [set_same hG]⟩
  | p :: r, st, G, o, hs, hr, hl, hG => by
    have hp := hr p (by simp)
    have hl' : st.length < 100 := by simp at hl; omega
    have k := pop_loop p hp ps st 100 G n hs hl' hG
    have lp := popC_len p st
    have hG2 : (G.set n (.lst (ptsD (popC p st).reverse)))[n]? = some (.lst (ptsD (popC p st).reverse)) := get_set hG
    have hz : (ptsD (popC p st).reverse).length < sizeLine := by
      rw [List.length_map, List.length_reverse]
      have : sizeLine = 16777216 := rfl
      simp at hl
      omega
    obtain ⟨o', ih⟩ := chain_loop ps n r (p :: popC p st) (G.set n (.lst (ptsD (p :: popC p st).reverse))) (some (.d (ptD p))) (fun q hq => by
      rcases List.mem_cons.mp hq with rfl | hq
      · exact hp
      · exact hs q (pop_sub p st q hq)) (fun q hq => hr q (by simp [hq])) (by simp at hl ⊢; omega) (get_set hG)
    refine ⟨o', ?_⟩
    have eX : ptsD (p :: popC p st).reverse = ptsD (popC p st).reverse ++ [ptD p] := by simp
    have eC : chainC st (p :: r) = chainC (p :: popC p st) r := rfl
    rw [eX] at ih
    rw [eC]
    show forN _ _ _ (ptD p :: ptsD r) _ _ = _
    rw [forN_consP _ _ _ _ _ _ (ds1 := [some (.d (.list ps)), some (.mr n), some (.d (ptD p))]) (G1 := G) rfl]
    have e2 : ∀ ds G, b_chain_f2 F_turn_of fu100 ds G = (whileN (b_chain_t0 F_turn_of fu100) (b_chain_w1 F_turn_of fu100) 100 ds G).seq (dropS (methL appendF (varE 1) (consA (varE 2) nilA))) := fun ds G => by
      unfold b_chain_f2
      rw [seqS_ap, whileS_ap]
    rw [e2, k]
    generalize ptsD (popC p st).reverse = Y at *
    generalize ptsD (chainC (p :: popC p st) r).reverse = Z at *
    generalize ptsD r = R at *
    simp only [seq_nx, dropS_ap, methL_ap, varE_ap, List.getElem?_cons_succ, List.getElem?_cons_zero, getV_some, ER.bind_ok, meK_ap, isL_mr n _ _ hG2, if_true, consA_ap, consK_ap, nilA_ap, cons2K_ap, me2K_ap, appendF_mr n _ _ _ hG2 hz, liftO_some, eS_ok, dropK_ap, turn_nx, List.set_set]
    rw [ih, List.set_set]
theorem chain_eq (l : List Pt) (G : Ms) (hs : ∀ q ∈ l, Sm q) (hl : l.length < 90) : F_chain [.d (.list (ptsD l))] G = .ok (.d (.list (ptsD (chainC [] l).reverse))) G := by
  unfold F_chain
  rw [defW_ap]
  obtain ⟨o', k⟩ := chain_loop (ptsD l) G.length l [] (G ++ [.lst []]) none (by simp) hs (by simpa using hl) (by simp)
  simp [b_chain] at k ⊢
  rw [k]
  simp [cutM]
/-! ### hull_of -/
theorem chain_len : ∀ (r st : List Pt), (chainC st r).length ≤ st.length + r.length
  | [], st => Nat.le_refl _
  | p :: r, st => by
    have e : chainC st (p :: r) = chainC (p :: popC p st) r := rfl
    have := chain_len r (p :: popC p st)
    have := popC_len p st
    rw [e]
    simp at *
    omega
def hullR (l : List Pt) (G : Ms) : ER DV := match hull l with
  | some c => .ok (.d (.tuple (ptsD c))) G
  | none => .exn ⟨"Nothing", []⟩ G
theorem hull_of_any (x : PyData) (l : List Pt) (hx : ∀ G, anyI (.d x) G = some ((ptsD l, .pure), G)) (G : Ms) (hs : ∀ q ∈ l, Sm q) (hl : l.length < 60) : F_hull_of [.d x] G = hullR l G := by
  have sz : sizeLine = 16777216 := rfl
  unfold F_hull_of
  rw [defW_ap]
  have hk : ∀ dw G, dw = [some (DV.d x), none, none, none, none, none] → dkN (nameT 5) (varE 5) (kE (.bool true)) .pure dw (ptsD l) [] G = .ok (dedup (l.map ptR)) G := fun dw G e => by
    subst e
    refine dkN_pts _ _ _ .pure _ G True.intro l [] (by simp; omega) fun p hp => ⟨_, _, rfl, ?_, rfl⟩
    simp
  have hr : (List.mergeSort (dedup (l.map ptR)) leR).map rowT = ptsD (rowsP l) := rowsT_eq l
  have l1 := rowsP_len l
  have s1 : ∀ q ∈ rowsP l, Sm q := fun q hq => hs q ((rowsP_mem l q).mp hq)
  have c1 : ∀ G, F_chain [.d (.list (ptsD (rowsP l)))] G = _ := fun G => chain_eq (rowsP l) G s1 (by omega)
  have c2 : ∀ G, F_chain [.d (.list (ptsD (rowsP l)).reverse)] G = .ok (.d (.list (ptsD (chainC [] (rowsP l).reverse).reverse))) G := fun G => by
    rw [← List.map_reverse]
    exact chain_eq (rowsP l).reverse G (fun q hq => s1 q (List.mem_reverse.mp hq)) (by rw [List.length_reverse]; omega)
  have n1 := chain_len (rowsP l) []
  have n2 := chain_len (rowsP l).reverse []
  unfold hullR hull hullC ringC
  simp only [List.length_nil, List.length_reverse, Nat.zero_add] at n1 n2
  generalize rowsP l = S at *
  generalize chainC [] S = A at *
  generalize chainC [] S.reverse = B at *
  generalize hA : ptsD A.reverse = A' at *
  generalize hB : ptsD B.reverse = B' at *
  have eA : A'.dropLast = ptsD A.reverse.dropLast := by rw [← hA]; exact (List.map_dropLast ..).symm
  have eB : B'.dropLast = ptsD B.reverse.dropLast := by rw [← hB]; exact (List.map_dropLast ..).symm
  have nA : A.reverse.dropLast.length ≤ S.length := by rw [List.length_dropLast, List.length_reverse]; omega
  have nB : B.reverse.dropLast.length ≤ S.length := by rw [List.length_dropLast, List.length_reverse]; omega
  generalize A.reverse.dropLast = L at *
  generalize B.reverse.dropLast = M at *
  simp [b_hull_of, hx, wipeD, hk, hr, -List.map_reverse]
  by_cases h3 : S.length < 3
  · have h3' : (S.length : Int) < 3 := by omega
    simp [h3, h3']
  · have h3' : ¬ (S.length : Int) < 3 := by omega
    have hz : L.length + M.length ≤ sizeLine := by omega
    simp [h3, h3', c1, c2, cutD_m1, eA, eB, datas_app, hz, -List.map_reverse, -List.map_dropLast, -List.map_map]
    by_cases h4 : L.length + M.length < 3
    · have h4' : (L.length : Int) + (M.length : Int) < 3 := by omega
      simp [h4, h4']
    · have h4' : ¬ (L.length : Int) + (M.length : Int) < 3 := by omega
      simp [h4, h4']
theorem hull_of_list (l : List Pt) (G : Ms) (hs : ∀ q ∈ l, Sm q) (hl : l.length < 60) : F_hull_of [.d (.list (ptsD l))] G = hullR l G := hull_of_any _ l (fun _ => rfl) G hs hl
theorem hull_of_tuple (l : List Pt) (G : Ms) (hs : ∀ q ∈ l, Sm q) (hl : l.length < 60) : F_hull_of [.d (.tuple (ptsD l))] G = hullR l G := hull_of_any _ l (fun _ => rfl) G hs hl
theorem plain_pts (l : List Pt) : (PyData.tuple (ptsD l)).plain = true := by
  rw [PyData.plain]
  induction l with
  | nil => rfl
  | cons p l ih =>
    show PyData.plainAll (ptD p :: ptsD l) = true
    rw [PyData.plainAll, ih]
    simp [PyData.plain, PyData.plainAll]
theorem depth_pts (l : List Pt) : (PyData.tuple (ptsD l)).depth ≤ 2 := by
  rw [PyData.depth]
  have : PyData.depthAll (ptsD l) ≤ 1 := by
    induction l with
    | nil => exact Nat.zero_le _
    | cons p l ih =>
      show PyData.depthAll (ptD p :: ptsD l) ≤ 1
      rw [PyData.depthAll]
      simp [PyData.depth, PyData.depthAll] at ih ⊢
      omega
  omega
theorem eqvAll_pts : ∀ a b : List Pt, PyData.eqvAll (ptsD a) (ptsD b) = decide (a = b)
  | [], [] => by simp [PyData.eqvAll]
  | [], _ :: _ => by simp [PyData.eqvAll]
  | _ :: _, [] => by simp [PyData.eqvAll]
  | (x, y) :: a, (z, w) :: b => by
    show PyData.eqvAll (ptD (x, y) :: ptsD a) (ptD (z, w) :: ptsD b) = _
    rw [PyData.eqvAll, eqvAll_pts a b, Bool.eq_iff_iff]
    simp [PyData.eqv, PyData.eqvAll]
theorem eqF_pts (neg : Bool) (a b : List Pt) (G : Ms) : eqF neg (.d (.tuple (ptsD a))) (.d (.tuple (ptsD b))) G = some (.d (.bool (if neg = true then !decide (a = b) else decide (a = b))), G) := by
  have := depth_pts a
  rw [eqF_d neg _ _ G (plain_pts a) (plain_pts b) (by omega)]
  rw [PyData.eqv, eqvAll_pts]
theorem is_hull_eq (l : List Pt) (G : Ms) (hs : ∀ q ∈ l, Sm q) (hl : l.length < 60) : F_is_hull [.d (.tuple (ptsD l))] G = .ok (.d (.bool (decide (hull l = some l)))) G := by
  unfold F_is_hull
  rw [defW_ap]
  have h : ∀ G, F_hull_of [.d (.tuple (ptsD l))] G = hullR l G := fun G => hull_of_tuple l G hs hl
  simp [b_is_hull, h, hullR]
  cases e : hull l with
  | none => simp [handM, mt_Nothing, noX]
  | some c => simp [eqF_pts]
end K02
namespace K02
open PySem PySem.Spec PyProof.Rows L2 LamX DL HullM
noncomputable def F__law_cross : FM := defW cutM 2 b__law_cross
noncomputable def F__law_hull : FM := defW cutM 11 (b__law_hull F__law_cross)
theorem law_cross_eq (a b : Pt) (G : Ms) (h1 : a.1.natAbs ≤ 1000000000000000000) (h2 : a.2.natAbs ≤ 1000000000000000000) (h3 : b.1.natAbs ≤ 1000000000000000000) (h4 : b.2.natAbs ≤ 1000000000000000000) :
    F__law_cross [.d (ptD a), .d (ptD b)] G = .ok (.d (.int (cross a b))) G := by
  unfold F__law_cross
  rw [defW_ap]
  have m1 : ∀ G, mulF (.d (.int a.1)) (.d (.int b.2)) G = _ := fun G => mulF_int _ _ G (by omega) (by omega)
  have m2 : ∀ G, mulF (.d (.int a.2)) (.d (.int b.1)) G = _ := fun G => mulF_int _ _ G (by omega) (by omega)
  simp [b__law_cross, m1, m2, cross]
theorem abs_nat (i : Int) : (if i < 0 then -i else i) = (i.natAbs : Int) := by split <;> omega
/-- one look -/
theorem look_eq (h g s : Pt) (hh : Sm h) (hg : Sm g) (hs : Sm s) (a0 a1 a3 a4 x7 x8 x9 x10 : Option DV) (G : Ms) :
    ∃ y7 y8 y9 y10, b__law_hull_f0 F__law_cross [a0, a1, some (.d (ptD h)), a3, a4, some (.d (ptD g)), some (.d (ptD s)), x7, x8, x9, x10] G = .nx [a0, a1, some (.d (ptD h)), a3, a4, some (.d (ptD (if beats h g s = true then s else g))), some (.d (ptD s)), y7, y8, y9, y10] G := by
  unfold Sm at *
  have c : ∀ G, F__law_cross [.d (.tuple [.int (g.1 - h.1), .int (g.2 - h.2)]), .d (.tuple [.int (s.1 - h.1), .int (s.2 - h.2)])] G = .ok (.d (.int (cross (sub g h) (sub s h)))) G := fun G => law_cross_eq (sub g h) (sub s h) G (by unfold sub; simp only; omega) (by unfold sub; simp only; omega) (by unfold sub; simp only; omega) (by unfold sub; simp only; omega)
  have m1 : ∀ G, mulF (.d (.int (g.1 - h.1))) (.d (.int (s.1 - h.1))) G = _ := fun G => mulF_int _ _ G (by omega) (by omega)
  have m2 : ∀ G, mulF (.d (.int (g.2 - h.2))) (.d (.int (s.2 - h.2))) G = _ := fun G => mulF_int _ _ G (by omega) (by omega)
  have sz : (2 : Nat) ≤ sizeLine := by decide
  refine ⟨some (.d (ptD (sub g h))), some (.d (ptD (sub s h))), some (.d (.int (cross (sub g h) (sub s h)))), some (.d (.bool (decide (far h g < far h s)))), ?_⟩
  have e : beats h g s = (decide (cross (sub g h) (sub s h) < 0) || (decide (cross (sub g h) (sub s h) = 0) && (decide (far h g < far h s) && decide (0 < (g.1 - h.1) * (s.1 - h.1) + (g.2 - h.2) * (s.2 - h.2))))) := rfl
  rw [e]
  simp [b__law_hull_f0, c, m1, m2, sz, abs_nat, sub, far]
  by_cases k1 : cross (g.1 - h.1, g.2 - h.2) (s.1 - h.1, s.2 - h.2) < 0
  · simp [k1] <;> exact decide_eq_decide.mpr Iff.rfl
  · by_cases k2 : cross (g.1 - h.1, g.2 - h.2) (s.1 - h.1, s.2 - h.2) = 0
    · by_cases k3 : ((g.1 - h.1).natAbs : Int) + ((g.2 - h.2).natAbs : Int) < ((s.1 - h.1).natAbs : Int) + ((s.2 - h.2).natAbs : Int)
      · by_cases k4 : 0 < (g.1 - h.1) * (s.1 - h.1) + (g.2 - h.2) * (s.2 - h.2) <;> simp [k2, k3, k4] <;> exact decide_eq_decide.mpr Iff.rfl
      · simp [k2, k3] <;> exact decide_eq_decide.mpr Iff.rfl
    · simp [k1, k2] <;> exact decide_eq_decide.mpr Iff.rfl
theorem look_loop (h : Pt) (hh : Sm h) (a0 a1 a3 a4 : Option DV) (G : Ms) : ∀ (l : List Pt) (g : Pt) (x6 x7 x8 x9 x10 : Option DV), (∀ q ∈ l, Sm q) → Sm g →
    ∃ y6 y7 y8 y9 y10, forN (nameT 6) (b__law_hull_f0 F__law_cross) .pure (ptsD l) [a0, a1, some (.d (ptD h)), a3, a4, some (.d (ptD g)), x6, x7, x8, x9, x10] G = .nx [a0, a1, some (.d (ptD h)), a3, a4, some (.d (ptD (goalC h l g))), y6, y7, y8, y9, y10] G
  | [], g, x6, x7, x8, x9, x10, _, _ => ⟨x6, x7, x8, x9, x10, forN_nilP _ _ _ _⟩
  | s :: l, g, x6, x7, x8, x9, x10, hl, hg => by
    have hs := hl s (by simp)
    obtain ⟨y7, y8, y9, y10, k⟩ := look_eq h g s hh hg hs a0 a1 a3 a4 x7 x8 x9 x10 G
    obtain ⟨z6, z7, z8, z9, z10, ih⟩ := look_loop h hh a0 a1 a3 a4 G l (if beats h g s = true then s else g) (some (.d (ptD s))) y7 y8 y9 y10 (fun q hq => hl q (by simp [hq])) (by split <;> assumption)
    refine ⟨z6, z7, z8, z9, z10, ?_⟩
    show forN _ _ _ (ptD s :: ptsD l) _ _ = _
    rw [forN_consP _ _ _ _ _ _ (ds1 := [a0, a1, some (.d (ptD h)), a3, a4, some (.d (ptD g)), some (.d (ptD s)), x7, x8, x9, x10]) (G1 := G) rfl, k, turn_nx, ih]
    rfl
theorem goalC_mem (h : Pt) : ∀ (l : List Pt) (g : Pt), goalC h l g = g ∨ goalC h l g ∈ l
  | [], g => .inl rfl
  | s :: l, g => by
    show goalC h l (if beats h g s = true then s else g) = g ∨ goalC h l (if beats h g s = true then s else g) ∈ s :: l
    rcases goalC_mem h l (if beats h g s = true then s else g) with z | z
    · rw [z]
      split
      · exact .inr (by simp)
      · exact .inl rfl
    · exact .inr (by simp [z])
theorem eqF_pt (neg : Bool) (a b : Pt) (G : Ms) : eqF neg (.d (ptD a)) (.d (ptD b)) G = some (.d (.bool (if neg = true then !decide (a = b) else decide (a = b))), G) := by
  rw [eqF_d neg _ _ G (by simp [PyData.plain, PyData.plainAll]) (by simp [PyData.plain, PyData.plainAll]) (by simp [PyData.depth, PyData.depthAll])]
  obtain ⟨x, y⟩ := a
  obtain ⟨z, w⟩ := b
  have e : PyData.eqv (ptD (x, y)) (ptD (z, w)) = decide ((x, y) = (z, w)) := by
    rw [Bool.eq_iff_iff]
    simp [PyData.eqv, PyData.eqvAll]
  rw [e]
theorem round_loop (S : List Pt) (s0 s1 : Pt) (r : List Pt) (eS : S = s0 :: s1 :: r) (hS : ∀ q ∈ S, Sm q) (a0 : Option DV) (n : Nat) : ∀ (items : List PyData) (h : Pt) (found : List Pt) (G : Ms) (x4 x5 x6 x7 x8 x9 x10 : Option DV), h ∈ S → found.length + items.length < 1000 → G[n]? = some (.lst (ptsD found)) →
    ∃ y2 y4 y5 y6 y7 y8 y9 y10, forN (nameT 4) (b__law_hull_f1 F__law_cross) .pure items [a0, some (.d (.list (ptsD S))), some (.d (ptD h)), some (.mr n), x4, x5, x6, x7, x8, x9, x10] G = .nx [a0, some (.d (.list (ptsD S))), y2, some (.mr n), y4, y5, y6, y7, y8, y9, y10] (G.set n (.lst (ptsD (wrapN S s0 s1 items.length h found))))
  | [], h, found, G, x4, x5, x6, x7, x8, x9, x10, _, _, hG => ⟨_, x4, x5, x6, x7, x8, x9, x10, by
    rw [forN_nilP]
    show _ = SR.nx _ (G.set n (.lst (ptsD found)))
    rw [set_same hG]⟩
  | i :: items, h, found, G, x4, x5, x6, x7, x8, x9, x10, hh, hl, hG => by
    have sh := hS h hh
    have m0 : s0 ∈ S := by rw [eS]; simp
    have m1 : s1 ∈ S := by rw [eS]; simp
    have hg0 : Sm (if h ≠ s0 then s0 else s1) := by split <;> exact hS _ (by assumption)
    have hz : (ptsD found).length < sizeLine := by
      have : sizeLine = 16777216 := rfl
      rw [List.length_map]
      omega
    obtain ⟨y6, y7, y8, y9, y10, k⟩ := look_loop h sh a0 (some (.d (.list (ptsD S)))) (some (.mr n)) (some (.d i)) (G.set n (.lst (ptsD found ++ [ptD h]))) S (if h ≠ s0 then s0 else s1) x6 x7 x8 x9 x10 hS hg0
    have gm : goalC h S (if h ≠ s0 then s0 else s1) ∈ S := by
      rcases goalC_mem h S (if h ≠ s0 then s0 else s1) with z | z
      · rw [z]; split <;> assumption
      · exact z
    have a00 : atI (ptsD S) 0 = some (ptD s0) := by rw [eS]; exact atI_0 _ _
    have a01 : atI (ptsD S) 1 = some (ptD s1) := by rw [eS]; exact atI_1 _ _ _
    rw [forN_consP _ _ _ _ _ _ (ds1 := [a0, some (.d (.list (ptsD S))), some (.d (ptD h)), some (.mr n), some (.d i), x5, x6, x7, x8, x9, x10]) (G1 := G) rfl]
    have ew : wrapN S s0 s1 (i :: items).length h found = if goalC h S (if h ≠ s0 then s0 else s1) = s0 then found ++ [h] else wrapN S s0 s1 items.length (goalC h S (if h ≠ s0 then s0 else s1)) (found ++ [h]) := rfl
    rw [ew]
    generalize hg : goalC h S (if h ≠ s0 then s0 else s1) = g at *
    have hG2 : (G.set n (.lst (ptsD found ++ [ptD h])))[n]? = some (.lst (ptsD (found ++ [h]))) := by rw [get_set hG]; simp
    have step : b__law_hull_f1 F__law_cross [a0, some (.d (.list (ptsD S))), some (.d (ptD h)), some (.mr n), some (.d i), x5, x6, x7, x8, x9, x10] G = if g = s0 then .bk [a0, some (.d (.list (ptsD S))), some (.d (ptD g)), some (.mr n), some (.d i), some (.d (ptD g)), y6, y7, y8, y9, y10] (G.set n (.lst (ptsD found ++ [ptD h]))) else .nx [a0, some (.d (.list (ptsD S))), some (.d (ptD g)), some (.mr n), some (.d i), some (.d (ptD g)), y6, y7, y8, y9, y10] (G.set n (.lst (ptsD found ++ [ptD h]))) := by
      by_cases c : h = s0
      · rw [if_neg (by simpa using c)] at k
        simp [b__law_hull_f1, isL_mr n G _ hG, appendF_mr n _ _ G hG hz, a00, a01, eqF_pt, c] at k ⊢
        rw [← c] at k ⊢
        simp [k, a00, eqF_pt]
        rw [c]
      · rw [if_pos c] at k
        simp [b__law_hull_f1, isL_mr n G _ hG, appendF_mr n _ _ G hG hz, a00, a01, eqF_pt, c, k]
    rw [step]
    by_cases c : g = s0
    · rw [if_pos c, if_pos c, turn_bk]
      have eF : ptsD (found ++ [h]) = ptsD found ++ [ptD h] := by simp
      exact ⟨_, _, _, _, _, _, _, _, by rw [eF]⟩
    · rw [if_neg c, if_neg c, turn_nx]
      obtain ⟨z2, z4, z5, z6, z7, z8, z9, z10, ih⟩ := round_loop S s0 s1 r eS hS a0 n items g (found ++ [h]) (G.set n (.lst (ptsD found ++ [ptD h]))) (some (.d i)) (some (.d (ptD g))) y6 y7 y8 y9 y10 gm (by rw [List.length_append]; simp at hl ⊢; omega) hG2
      exact ⟨z2, z4, z5, z6, z7, z8, z9, z10, by rw [ih, List.set_set]⟩
def hullD (l : List Pt) : PyData := match hull l with
  | some c => .tuple (ptsD c)
  | none => .none
theorem wrapN_len (S : List Pt) (s0 s1 : Pt) : ∀ (n : Nat) (h : Pt) (found : List Pt), (wrapN S s0 s1 n h found).length ≤ found.length + n
  | 0, h, found => Nat.le_refl _
  | n + 1, h, found => by
    show (if goalC h S (if h ≠ s0 then s0 else s1) = s0 then found ++ [h] else wrapN S s0 s1 n (goalC h S (if h ≠ s0 then s0 else s1)) (found ++ [h])).length ≤ _
    by_cases c : goalC h S (if h ≠ s0 then s0 else s1) = s0
    · rw [if_pos c, List.length_append, List.length_singleton]
      omega
    · rw [if_neg c]
      have := wrapN_len S s0 s1 n (goalC h S (if h ≠ s0 then s0 else s1)) (found ++ [h])
      rw [List.length_append, List.length_singleton] at this
      omega
theorem law_hull_any (x : PyData) (l : List Pt) (hx : ∀ G, seqOf G (.d x) = some (ptsD l)) (G : Ms) (hs : ∀ q ∈ l, Sm q) (hl : l.length < 60) : F__law_hull [.d x] G = .ok (.d (hullD l)) G := by
  unfold F__law_hull
  rw [defW_ap]
  have hr : ∀ G, srtSetF true (.d x) G = some (.d (.list (ptsD (rowsP l))), G) := fun G => by
    unfold srtSetF
    rw [hx, Option.bind_some, show ptsD l = (l.map ptR).map rowT by rw [List.map_map]; rfl, rowsD_rows _ (fun k hk => by obtain ⟨p, _, rfl⟩ := List.mem_map.mp hk; simp [ptR])]
    simp only
    rw [if_pos (by rw [List.length_map]; omega), rowsT_eq]
    rfl
  have l1 := rowsP_len l
  have s1 : ∀ q ∈ rowsP l, Sm q := fun q hq => hs q ((rowsP_mem l q).mp hq)
  have e := hulls_same (rowsP_lt l)
  unfold hullD hull
  rw [← e]
  generalize rowsP l = S at *
  match S, s1, l1 with
  | [], _, _ => simp [b__law_hull, hr, hullW]
  | [_], _, _ => simp [b__law_hull, hr, hullW]
  | [_, _], _, _ => simp [b__law_hull, hr, hullW]
  | a :: b :: c :: r, s1, l1 =>
    have h3 : ¬ ((r.length : Int) + 1 + 1 + 1 < 3) := by omega
    have n1 := wrapN_len (a :: b :: c :: r) a b ((a :: b :: c :: r).length + 1) a []
    have hw : hullW (a :: b :: c :: r) = if (wrapN (a :: b :: c :: r) a b ((a :: b :: c :: r).length + 1) a []).length > 2 then some (wrapN (a :: b :: c :: r) a b ((a :: b :: c :: r).length + 1) a []) else none := rfl
    have hn : (rangeD 0 ((a :: b :: c :: r).length + 1)).length = (a :: b :: c :: r).length + 1 := by simp [rangeD]
    have rl := round_loop (a :: b :: c :: r) a b (c :: r) rfl s1 (some (.d x)) G.length (rangeD 0 ((a :: b :: c :: r).length + 1)) a [] (G ++ [.lst []]) none none none none none none none (by simp) (by rw [hn]; simp at l1 ⊢; omega) (by simp)
    obtain ⟨y2, y4, y5, y6, y7, y8, y9, y10, k⟩ := rl
    rw [hn] at k
    rw [hw]
    have a00 : atI (ptsD (a :: b :: c :: r)) 0 = some (ptD a) := atI_0 _ _
    have hlen : ((ptsD (a :: b :: c :: r)).length : Int) = ((a :: b :: c :: r).length : Int) := by rw [List.length_map]
    have g3 : ¬ ((a :: b :: c :: r).length : Int) < 3 := by simp only [List.length_cons]; omega
    have hlo : (a :: b :: c :: r).length + 1 ≤ 1000000 := by omega
    generalize wrapN (a :: b :: c :: r) a b ((a :: b :: c :: r).length + 1) a [] = C at *
    generalize hT : a :: b :: c :: r = T at *
    generalize hP : ptsD T = PT at *
    have q1 : ∀ G, addF true (.d (.int (T.length : Int))) (.d (.int 1)) G = some (.d (.int ((T.length : Int) + 1)), G) := fun G => rfl
    have q2 : ∀ G, listF false [] G = some (.mr G.length, G ++ [.lst []]) := fun G => rfl
    clear s1 l1 hn h3 hs hl
    simp only [b__law_hull, seqS_ap, asgS_ap, unE_ap, varE_ap, List.map_cons, List.map_nil, List.length_cons, List.length_nil, Nat.reduceAdd, Nat.reduceSub, List.replicate_succ, List.replicate_zero, List.cons_append, List.nil_append, List.getElem?_cons_zero, List.getElem?_cons_succ, getV_some, ER.bind_ok, liftK_ap, hr, liftO_some, eS_ok, asgK_ap, nameT_ap, oS_some, seq_nx, List.set_cons_succ, List.set_cons_zero]
    simp [hlen, g3, a00, -forS_ap]
    have hI : iterA range1F (consA (binE (addF true) (callE lenF (consA (varE 1) nilA)) (kE (.int 1))) nilA) [some (.d x), some (.d (.list PT)), some (.d (ptD a)), some (.mr G.length), none, none, none, none, none, none, none] (G ++ [.lst []]) = .ok (rangeD 0 (T.length + 1), .pure) (G ++ [.lst []]) :=
      iter_range1 (i := (T.length : Int) + 1) (T.length + 1) (by simp [hlen]) (by omega) hlo
    rw [forS_ap, hI, eS_ok, forK_ap, k]
    have hG2 : (G ++ [MO.lst (ptsD C)])[G.length]? = some (.lst (ptsD C)) := by simp
    have eS2 : List.set (G ++ [MO.lst []]) G.length (MO.lst (ptsD C)) = G ++ [MO.lst (ptsD C)] := by simp
    have lc : ((ptsD C).length : Int) = (C.length : Int) := by rw [List.length_map]
    have tk : (G ++ [MO.lst (ptsD C)]).take G.length = G := by simp
    rw [eS2]
    generalize hPC : ptsD C = PC at *
    by_cases c3 : 2 < C.length
    · have c3' : (2 : Int) < (C.length : Int) := by omega
      simp [lenF_mr _ _ _ hG2, lc, c3', tupleF_mr _ _ _ hG2, tk, c3, hPC]
    · have c3' : ¬ (2 : Int) < (C.length : Int) := by omega
      simp [lenF_mr _ _ _ hG2, lc, c3', tk, c3]
end K02
namespace K02
open PySem PySem.Spec PyProof.Rows L2 LamX DL HullM
noncomputable def F__law_alike : FM := defW cutM 2 b__law_alike
theorem law_alike_eq (x : PyData) (h : Fit 90 100000 x) (G : Ms) : F__law_alike [.d x, .d x] G = .ok (.d (.bool true)) G := by
  unfold F__law_alike
  rw [defW_ap]
  have r : ∀ G, reprF [.d x] G = _ := fun G => h.repr G
  have e : ∀ G, eqF false (.d x) (.d x) G = _ := fun G => h.same G
  have e2 : ∀ (s : Str) G, eqF false (.d (.str s)) (.d (.str s)) G = some (.d (.bool true), G) := fun s G => by
    rw [eqF_d false _ _ G rfl rfl (by simp [PyData.depth]), eqv_refl _ rfl]
    rfl
  simp only [b__law_alike, retS_ap, andE_ap, binE_ap, callE_ap, consA_ap, varE_ap, List.map_cons, List.map_nil, List.length_cons, List.length_nil, Nat.reduceAdd, Nat.reduceSub, List.replicate_zero, List.append_nil, List.getElem?_cons_zero, List.getElem?_cons_succ, getV_some, ER.bind_ok]
  simp [r, e, e2, -reprF_ap]
/-! ### which value is a part -/
theorem couple_pt {x : PyData} (h : isCouple x = true) : ∃ p, x = ptD p := by
  unfold isCouple at h
  split at h
  · rename_i u v
    rw [Bool.and_eq_true] at h
    cases u <;> first | (cases h.1; done) | skip
    cases v <;> first | (cases h.2; done) | skip
    rename_i a b
    exact ⟨(a, b), rfl⟩
  · cases h
theorem couples_pts : ∀ {xs : List PyData}, xs.all isCouple = true → ∃ l, xs = ptsD l
  | [], _ => ⟨[], rfl⟩
  | x :: xs, h => by
    rw [List.all_cons, Bool.and_eq_true] at h
    obtain ⟨p, rfl⟩ := couple_pt h.1
    obtain ⟨l, rfl⟩ := couples_pts h.2
    exact ⟨p :: l, rfl⟩
theorem pts_couples : ∀ l : List Pt, (ptsD l).all isCouple = true
  | [] => rfl
  | p :: l => by
    show (ptD p :: ptsD l).all isCouple = true
    rw [List.all_cons, pts_couples l]
    rfl
def isFar (p : Pt) : Bool := decide (99 < p.1.natAbs) || decide (99 < p.2.natAbs)
def farK : Nat → List Pt → Option Nat
  | _, [] => none
  | k, p :: l => if isFar p = true then some k else farK (k + 1) l
def numsD : Nat → List PyData → List PyData
  | _, [] => []
  | k, x :: xs => .tuple [.int (k : Nat), x] :: numsD (k + 1) xs
theorem mapIdx_nums : ∀ (xs : List PyData) (k : Nat), xs.mapIdx (fun i x => PyData.tuple [.int ((i + k : Nat) : Int), x]) = numsD k xs
  | [], _ => rfl
  | x :: xs, k => by
    rw [List.mapIdx_cons, numsD, ← mapIdx_nums xs (k + 1)]
    simp only [Nat.zero_add, List.cons.injEq, true_and]
    congr 1
    funext i x
    rw [show i + 1 + k = i + (k + 1) by omega]
theorem enumD_nums (xs : List PyData) : enumD xs = numsD 0 xs := mapIdx_nums xs 0
theorem farK_none : ∀ {l : List Pt} {k : Nat}, farK k l = none → ∀ p ∈ l, Sm p
  | [], _, _, _, hp => by cases hp
  | q :: l, k, h, p, hp => by
    unfold farK at h
    by_cases c : isFar q = true
    · rw [if_pos c] at h
      cases h
    · rw [if_neg c] at h
      rcases List.mem_cons.mp hp with rfl | hp
      · unfold isFar at c
        simp at c
        unfold Sm
        omega
      · exact farK_none h p hp
theorem farK_lt : ∀ {l : List Pt} {k j : Nat}, farK k l = some j → j < k + l.length
  | [], _, _, h => by cases h
  | p :: l, k, j, h => by
    unfold farK at h
    rw [List.length_cons]
    by_cases c : isFar p = true
    · rw [if_pos c] at h
      cases h
      omega
    · rw [if_neg c] at h
      have := farK_lt h
      omega
theorem far_loop (ad : Ad) (F1 : FM) (F2 : FM) (a0 : Option DV) (G : Ms) : ∀ (l : List Pt) (k : Nat) (a1 a2 a3 : Option DV), ∃ b1 b2 b3,
    forN (tupT 2 (consT (nameT 1) (consT (tupT 2 (consT (nameT 2) (consT (nameT 3) nilT))) nilT))) (b_checked_part_f0 F1 F2) .pure (numsD k (ptsD l)) [a0, a1, a2, a3] G =
      match farK k l with
      | none => .nx [a0, b1, b2, b3] G
      | some j => .exn ⟨"BadPart", [("fault", .str "far"), ("number", .int (j : Nat))]⟩ [a0, b1, b2, b3] G
  | [], k, a1, a2, a3 => ⟨a1, a2, a3, by rw [show numsD k (ptsD []) = [] from rfl, forN_nilP]; rfl⟩
  | p :: l, k, a1, a2, a3 => by
    have e0 : numsD k (ptsD (p :: l)) = .tuple [.int (k : Nat), ptD p] :: numsD (k + 1) (ptsD l) := rfl
    rw [e0, forN_consP _ _ _ _ _ _ (ds1 := [a0, some (.d (.int (k : Nat))), some (.d (.int p.1)), some (.d (.int p.2))]) (G1 := G) rfl]
    by_cases c : isFar p = true
    · refine ⟨some (.d (.int (k : Nat))), some (.d (.int p.1)), some (.d (.int p.2)), ?_⟩
      have ef : farK k (p :: l) = some k := by unfold farK; rw [if_pos c]
      rw [ef]
      unfold isFar at c
      simp at c
      by_cases m : p.1.natAbs < p.2.natAbs
      · simp [b_checked_part_f0, abs_nat, max2F, m]
        intro z
        omega
      · simp [b_checked_part_f0, abs_nat, max2F, m]
        intro z
        omega
    · have ef : farK k (p :: l) = farK (k + 1) l := by rw [farK, if_neg c]
      obtain ⟨b1, b2, b3, ih⟩ := far_loop ad F1 F2 a0 G l (k + 1) (some (.d (.int (k : Nat)))) (some (.d (.int p.1))) (some (.d (.int p.2)))
      refine ⟨b1, b2, b3, ?_⟩
      rw [ef, ← ih]
      unfold isFar at c
      simp at c
      by_cases m : p.1.natAbs < p.2.natAbs
      · simp [b_checked_part_f0, abs_nat, max2F, m]
        intro z
        omega
      · simp [b_checked_part_f0, abs_nat, max2F, m]
        intro z
        omega
/-- checked_part of points -/
def chkR (l : List Pt) (G : Ms) : ER DV :=
  if l.length < 3 then .exn ⟨"BadPart", [("fault", .str "form"), ("number", .int (-1))]⟩ G
  else if 10 < l.length then .exn ⟨"TooLarge", [("limit", .int 10), ("what", .str "corners")]⟩ G
  else match farK 0 l with
    | some k => .exn ⟨"BadPart", [("fault", .str "far"), ("number", .int (k : Nat))]⟩ G
    | none => if hull l = some l then .ok (.d (.tuple (ptsD l))) G else .exn ⟨"BadPart", [("fault", .str "hull"), ("number", .int (-1))]⟩ G
theorem checked_part_pts (ad : Ad) (l : List Pt) (hz : l.length ≤ sizeLine) (G : Ms) : F_checked_part ad [.d (.tuple (ptsD l))] G = chkR l G := by
  unfold F_checked_part
  rw [defW_ap]
  have hc : ∀ G, F_is_corners ad [.d (.tuple (ptsD l))] G = .ok (.d (.bool true)) G := fun G => by
    rw [is_corners_eq ad _ G (fun xs e => by cases e; rw [List.length_map]; exact hz)]
    unfold isCorners
    simp only
    rw [pts_couples]
  obtain ⟨b1, b2, b3, fl⟩ := far_loop ad (F_is_corners ad) F_is_hull (some (.d (.tuple (ptsD l)))) G l 0 none none none
  rw [← enumD_nums] at fl
  have hu : farK 0 l = none → l.length < 60 → ∀ G, F_is_hull [.d (.tuple (ptsD l))] G = _ := fun h1 h2 G => is_hull_eq l G (farK_none h1) h2
  have hE : ∀ G, enumTI (.d (.tuple (ptsD l))) G = some ((enumD (ptsD l), .pure), G) := fun G => rfl
  have hlen : ((ptsD l).length : Int) = (l.length : Int) := by rw [List.length_map]
  unfold chkR
  generalize hP : ptsD l = P at *
  by_cases c3 : l.length < 3
  · have c3' : (l.length : Int) < 3 := by omega
    simp [b_checked_part, hc, hlen, c3, c3']
  · have c3' : ¬ (l.length : Int) < 3 := by omega
    by_cases c10 : 10 < l.length
    · have c10' : (10 : Int) < (l.length : Int) := by omega
      simp [b_checked_part, hc, hlen, c3, c3', c10, c10']
    · have c10' : ¬ (10 : Int) < (l.length : Int) := by omega
      cases hf : farK 0 l with
      | some k =>
        rw [hf] at fl
        simp [b_checked_part, hc, hlen, c3, c3', c10, c10', hE, fl]
      | none =>
        rw [hf] at fl
        have h60 := hu hf (by omega)
        simp [b_checked_part, hc, hlen, c3, c3', c10, c10', hE, fl, h60]
theorem checked_part_form (ad : Ad) (x : PyData) (hx : ∀ xs, x = .tuple xs → xs.length ≤ sizeLine) (h : isCorners x = false) (G : Ms) : F_checked_part ad [.d x] G = .exn ⟨"BadPart", [("fault", .str "form"), ("number", .int (-1))]⟩ G := by
  unfold F_checked_part
  rw [defW_ap]
  have hc : ∀ G, F_is_corners ad [.d x] G = .ok (.d (.bool false)) G := fun G => by rw [is_corners_eq ad _ G hx, h]
  simp [b_checked_part, hc]
def farP : PyData → Bool
  | .tuple [_, .tuple [.int a, .int b]] => isFar (a, b)
  | _ => false
def numI : PyData → Int
  | .tuple [.int k, _] => k
  | _ => 0
theorem fars_eq : ∀ (l : List Pt) (k : Nat), ∃ r, (((numsD k (ptsD l)).filter farP).map fun x => PyData.int (numI x)) = match farK k l with
    | none => []
    | some j => .int (j : Nat) :: List.map PyData.int r
  | [], _ => ⟨[], rfl⟩
  | p :: l, k => by
    have e0 : numsD k (ptsD (p :: l)) = .tuple [.int (k : Nat), ptD p] :: numsD (k + 1) (ptsD l) := rfl
    have e1 : farP (.tuple [.int (k : Nat), ptD p]) = isFar p := rfl
    rw [e0, List.filter_cons, e1]
    by_cases c : isFar p = true
    · rw [if_pos c, farK, if_pos c]
      refine ⟨((numsD (k + 1) (ptsD l)).filter farP).map numI, ?_⟩
      rw [List.map_cons, List.map_map]
      rfl
    · rw [if_neg c, farK, if_neg c]
      exact fars_eq l (k + 1)
theorem nums_mem : ∀ {l : List Pt} {k : Nat} {x : PyData}, x ∈ numsD k (ptsD l) → ∃ (j : Nat) (p : Pt), x = .tuple [.int j, ptD p] ∧ p ∈ l
  | [], _, _, h => by cases h
  | p :: l, k, x, h => by
    have e0 : numsD k (ptsD (p :: l)) = .tuple [.int (k : Nat), ptD p] :: numsD (k + 1) (ptsD l) := rfl
    rw [e0] at h
    rcases List.mem_cons.mp h with rfl | h
    · exact ⟨k, p, rfl, by simp⟩
    · obtain ⟨j, q, e, hq⟩ := nums_mem h
      exact ⟨j, q, e, by simp [hq]⟩
theorem plain_ints : ∀ r : List Int, PyData.plainAll (r.map PyData.int) = true
  | [] => rfl
  | x :: r => by
    rw [List.map_cons, PyData.plainAll, plain_ints r]
    rfl
theorem eqF_hull (l m : List Pt) (G : Ms) : eqF false (.d (hullD l)) (.d (.tuple (ptsD m))) G = some (.d (.bool (decide (hull l = some m))), G) := by
  unfold hullD
  cases e : hull l with
  | none =>
    simp only
    rw [eqF_d false _ _ G rfl (plain_pts m) (by simp [PyData.depth])]
    simp [PyData.eqv]
  | some c =>
    simp only
    rw [eqF_pts]
    simp
end K02
namespace K02
open PySem PySem.Spec PyProof.Rows L2 LamX DL HullM
noncomputable def F__law_bag : FM := defW keepM 2 b__law_bag
noncomputable def F__law_take : FM := defW cutM 7 b__law_take
noncomputable def F__law_some : FM := defW cutM 2 (b__law_some F__law_take)
/-- the bag: its great number, its stirred number, its place, its cells -/
def BagL (c : Nat) (xs : List PyData) : Prop := ∃ (a b k : Int) (cells : List Int), xs = [.int a, .int b, .int k, .list (cells.map .int)] ∧ 0 ≤ a ∧ 0 ≤ b ∧ b < 2147483647 ∧ 0 ≤ k ∧ k ≤ c ∧ (∀ z ∈ cells, 0 ≤ z) ∧ cells.length ≤ 63
theorem BagL.mono {c d : Nat} {xs : List PyData} (h : BagL c xs) (k : c ≤ d) : BagL d xs := by
  obtain ⟨a, b, p, cells, e, h1, h2, h3, h4, h5, h6, h7⟩ := h
  exact ⟨a, b, p, cells, e, h1, h2, h3, h4, by omega, h6, h7⟩
theorem setF_0 (n : Nat) (x y : PyData) (r : List PyData) (G : Ms) (h : G[n]? = some (.lst (y :: r))) : setF (.mr n) (.d (.int 0)) (.d x) G = some (G.set n (.lst (x :: r))) := setF_mr n 0 x _ G h (by simp)
theorem setF_1 (n : Nat) (x y z : PyData) (r : List PyData) (G : Ms) (h : G[n]? = some (.lst (y :: z :: r))) : setF (.mr n) (.d (.int 1)) (.d x) G = some (G.set n (.lst (y :: x :: r))) := setF_mr n 1 x _ G h (by simp)
theorem setF_2 (n : Nat) (x y z u : PyData) (r : List PyData) (G : Ms) (h : G[n]? = some (.lst (y :: z :: u :: r))) : setF (.mr n) (.d (.int 2)) (.d x) G = some (G.set n (.lst (y :: z :: x :: r))) := setF_mr n 2 x _ G h (by simp)
theorem fmod_range {a m : Int} (h : 0 < m) : 0 ≤ a.fmod m ∧ a.fmod m < m := ⟨Int.fmod_nonneg_of_pos a h, Int.fmod_lt_of_pos a h⟩
theorem cpow18 : CPow 10 18 := by unfold CPow; decide
noncomputable def takeHead : SM :=
    (ifS (valB (binE (eqF false) (binE ixF (varE 0) (kE (.int 0))) (kE (.int 0)))) (seqS (asgS (binE ixF (binE (addF true) (sliceE true (binE ixF (varE 0) (kE (.int 3))) (theO (binE ixF (varE 0) (kE (.int 2)))) noO) (callE (listF true) (consA (kE (.int 0)) nilA))) (kE (.int 0))) (nameT 2))
      (seqS (ixAugS (varE 0) (kE (.int 2)) getF (kE (.int 1)) iaddF setF)
      (seqS (ifS (valB (binE geF (varE 2) (binE powF (kE (.int 10)) (kE (.int 18))))) (ixAsgS (varE 2) (varE 0) (kE (.int 0)) setF) skipS)
      (seqS (asgS (binE (addF true) (binE (addF true) (binE mulF (binE ixF (varE 0) (kE (.int 1))) (kE (.int 48271))) (binE modF (callE intF1 (consA (varE 2) nilA)) (kE (.int 2147483647)))) (binE mulF (kE (.int 7919)) (binE ixF (varE 0) (kE (.int 2))))) (nameT 3))
      (ixAsgS (binE modF (callE intF1 (consA (varE 3) nilA)) (kE (.int 2147483647))) (varE 0) (kE (.int 1)) setF))))) skipS)
noncomputable def takeRest : SM :=
    (seqS (ifS (valB (binE gtF (binE ixF (varE 0) (kE (.int 0))) (kE (.int 0)))) (seqS (asgS (binE modF (callE intF1 (consA (binE ixF (varE 0) (kE (.int 0))) nilA)) (varE 1)) (nameT 4))
      (seqS (ixAsgS (binE fdivF (callE intF1 (consA (binE ixF (varE 0) (kE (.int 0))) nilA)) (varE 1)) (varE 0) (kE (.int 0)) setF)
      (retS (varE 4)))) skipS)
    (seqS (asgS (binE modF (callE intF1 (consA (binE mulF (binE (addF true) (binE ixF (varE 0) (kE (.int 1))) (kE (.int 1))) (kE (.int 39373))) nilA)) (kE (.int 1000000007))) (nameT 5))
    (seqS (asgS (binE modF (callE intF1 (consA (binE mulF (binE modF (callE intF1 (consA (binE mulF (varE 5) (varE 5)) nilA)) (kE (.int 998244353))) (kE (.int 30011))) nilA)) (kE (.int 998244353))) (nameT 6))
    (retS (binE modF (callE intF1 (consA (binE fdivF (varE 6) (kE (.int 7))) nilA)) (varE 1))))))
theorem take_parts : b__law_take = seqS takeHead takeRest := rfl
theorem law_take_ok (n c : Nat) (m : Int) (G : Ms) (xs : List PyData) (hG : G[n]? = some (.lst xs)) (hB : BagL c xs) (hm : 1 ≤ m) (hm2 : m ≤ 1000000) (hc : c ≤ 1000000) :
    ∃ v ys, F__law_take [.mr n, .d (.int m)] G = .ok (.d (.int v)) (G.set n (.lst ys)) ∧ 0 ≤ v ∧ v < m ∧ BagL (c + 1) ys := by
  obtain ⟨a, b, k, cells, rfl, ha, hb, hb2, hk, hk2, hcs, hlen⟩ := hB
  have sz : sizeLine = 16777216 := rfl
  have m0 : m ≠ 0 := by omega
  have ms : m.natAbs ≤ 1000000000000000000 := by omega
  have hix := fun i => ixF_mr n i _ G hG
  have hix2 := fun L i => ixF_mr n i L (G.set n (.lst L)) (get_set hG)
  have hget := fun i => getF_mr n i _ G hG
  have tk : ∀ L, (G.set n L).take G.length = G.set n L := fun L => by rw [List.take_of_length_le (by simp)]
  have hmod : ∀ (i : Int) G, modF (.d (.int i)) (.d (.int m)) G = _ := fun i G => modF_int i m G m0
  have hdiv : ∀ (i : Int) G, fdivF (.d (.int i)) (.d (.int m)) G = _ := fun i G => fdivF_int i m G m0 ms
  have hmod1 : ∀ (i : Int) G, modF (.d (.int i)) (.d (.int 2147483647)) G = _ := fun i G => modF_int i 2147483647 G (by decide)
  have hmod2 : ∀ (i : Int) G, modF (.d (.int i)) (.d (.int 1000000007)) G = _ := fun i G => modF_int i 1000000007 G (by decide)
  have hmod3 : ∀ (i : Int) G, modF (.d (.int i)) (.d (.int 998244353)) G = _ := fun i G => modF_int i 998244353 G (by decide)
  have hdiv7 : ∀ (i : Int) G, fdivF (.d (.int i)) (.d (.int 7)) G = _ := fun i G => fdivF_int i 7 G (by decide) (by decide)
  -- the end: from the bag [a, b, k]
  have rest : ∀ (a b k : Int) (x2 x3 : Option DV) (G1 : Ms), 0 ≤ a → 0 ≤ b → b < 2147483647 → 0 ≤ k → k ≤ c + 1 → G1 = G.set n (.lst [.int a, .int b, .int k, .list (cells.map .int)]) →
      ∃ v ys, exitM cutM G.length (takeRest [some (.mr n), some (.d (.int m)), x2, x3, none, none, none] G1) = .ok (.d (.int v)) (G.set n (.lst ys)) ∧ 0 ≤ v ∧ v < m ∧ BagL (c + 1) ys := by
    intro a b k x2 x3 G1 ha hb hb2 hk hk2 eG
    subst eG
    have hs0 := fun x => setF_0 n x _ _ _ (get_set (y := MO.lst [.int a, .int b, .int k, .list (cells.map .int)]) hG)
    by_cases c0 : 0 < a
    · refine ⟨a.fmod m, [.int (a.fdiv m), .int b, .int k, .list (cells.map .int)], ?_, (fmod_range (by omega)).1, (fmod_range (by omega)).2, _, _, _, _, rfl, Int.fdiv_nonneg ha (by omega), hb, hb2, hk, by omega, hcs, hlen⟩
      simp [takeRest, hix2, c0, hmod, hdiv, hs0, tk]
    · have m1 : ∀ G, mulF (.d (.int (b + 1))) (.d (.int 39373)) G = _ := fun G => mulF_int _ _ G (by omega) (by omega)
      have r1 := fmod_range (a := (b + 1) * 39373) (m := 1000000007) (by decide)
      have m2 : ∀ G, mulF (.d (.int (((b + 1) * 39373).fmod 1000000007))) (.d (.int (((b + 1) * 39373).fmod 1000000007))) G = _ := fun G => mulF_int _ _ G (by omega) (by omega)
      generalize hB : ((b + 1) * 39373).fmod 1000000007 = B at *
      have r2 := fmod_range (a := B * B) (m := 998244353) (by decide)
      have m3 : ∀ G, mulF (.d (.int ((B * B).fmod 998244353))) (.d (.int 30011)) G = _ := fun G => mulF_int _ _ G (by omega) (by omega)
      have r3 := fmod_range (a := (((B * B).fmod 998244353 * 30011).fmod 998244353).fdiv 7) (m := m) (by omega)
      refine ⟨_, [.int a, .int b, .int k, .list (cells.map .int)], ?_, r3.1, r3.2, _, _, _, _, rfl, ha, hb, hb2, hk, by omega, hcs, hlen⟩
      simp [takeRest, hix2, c0, m1, hB, m2, m3, hmod, hmod2, hmod3, hdiv7, tk]
  unfold F__law_take
  rw [defW_ap, take_parts, seqS_ap]
  have fin : ∀ (a b k : Int) (x2 x3 : Option DV) (G1 : Ms), 0 ≤ a → 0 ≤ b → b < 2147483647 → 0 ≤ k → k ≤ c + 1 → G1 = G.set n (.lst [.int a, .int b, .int k, .list (cells.map .int)]) → takeHead [some (.mr n), some (.d (.int m)), none, none, none, none, none] G = .nx [some (.mr n), some (.d (.int m)), x2, x3, none, none, none] G1 →
      ∃ v ys, exitM cutM G.length ((takeHead ([DV.mr n, .d (.int m)].map some ++ List.replicate (7 - [DV.mr n, .d (.int m)].length) none) G).seq takeRest) = .ok (.d (.int v)) (G.set n (.lst ys)) ∧ 0 ≤ v ∧ v < m ∧ BagL (c + 1) ys := by
    intro a b k x2 x3 G1 h1 h2 h3 h4 h5 h6 h7
    obtain ⟨v, ys, k1, k2⟩ := rest a b k x2 x3 G1 h1 h2 h3 h4 h5 h6
    refine ⟨v, ys, ?_, k2⟩
    show exitM cutM G.length ((takeHead [some (.mr n), some (.d (.int m)), none, none, none, none, none] G).seq takeRest) = _
    rw [h7, seq_nx]
    exact k1
  by_cases a0 : a = 0
  · subst a0
    -- a cell
    obtain ⟨cell, hcell, hc0⟩ : ∃ cell : Int, atI (DL.cutD (cells.map PyData.int) (some k) none ++ [PyData.int 0]) 0 = some (.int cell) ∧ 0 ≤ cell := by
      have e1 : DL.cutD (cells.map PyData.int) (some k) none = (cells.drop k.toNat).map .int := by
        rw [cutD_from _ _ hk, List.map_drop]
      rw [e1]
      cases e : cells.drop k.toNat with
      | nil => exact ⟨0, by simp, by omega⟩
      | cons z r => exact ⟨z, by simp, hcs z (List.mem_of_mem_drop (by rw [e]; simp))⟩
    have hz : (DL.cutD (cells.map PyData.int) (some k) none).length + 1 ≤ sizeLine := by
      rw [cutD_from _ _ hk, List.length_drop, List.length_map]
      omega
    have hs0 : ∀ (p q r : PyData) x, setF (.mr n) (.d (.int 0)) (.d x) (G.set n (.lst [p, q, r, .list (cells.map .int)])) = _ := fun p q r x => setF_0 n x _ _ _ (get_set (y := MO.lst [p, q, r, .list (cells.map .int)]) hG)
    have hs1 : ∀ (p q r : PyData) x, setF (.mr n) (.d (.int 1)) (.d x) (G.set n (.lst [p, q, r, .list (cells.map .int)])) = _ := fun p q r x => setF_1 n x _ _ _ _ (get_set (y := MO.lst [p, q, r, .list (cells.map .int)]) hG)
    have hs2 := fun x => setF_2 n x _ _ _ _ _ hG
    have m1 : ∀ G, mulF (.d (.int b)) (.d (.int 48271)) G = _ := fun G => mulF_int _ _ G (by omega) (by omega)
    have m2 : ∀ G, mulF (.d (.int 7919)) (.d (.int (k + 1))) G = _ := fun G => mulF_int _ _ G (by omega) (by omega)
    have hp : ∀ G, powF (.d (.int 10)) (.d (.int 18)) G = _ := fun G => powF_int 10 18 G cpow18
    have r := fmod_range (a := b * 48271 + cell.fmod 2147483647 + 7919 * (k + 1)) (m := 2147483647) (by decide)
    by_cases big : (1000000000000000000 : Int) ≤ cell
    · refine fin cell ((b * 48271 + cell.fmod 2147483647 + 7919 * (k + 1)).fmod 2147483647) (k + 1) (some (.d (.int cell))) (some (.d (.int (b * 48271 + cell.fmod 2147483647 + 7919 * (k + 1))))) _ hc0 r.1 r.2 (by omega) (by omega) rfl ?_
      simp [takeHead, hix, hix2, hget, hcell, hz, hs2, hp, big, hs0, hs1, m1, m2, hmod1]
    · refine fin 0 ((b * 48271 + cell.fmod 2147483647 + 7919 * (k + 1)).fmod 2147483647) (k + 1) (some (.d (.int cell))) (some (.d (.int (b * 48271 + cell.fmod 2147483647 + 7919 * (k + 1))))) _ (by omega) r.1 r.2 (by omega) (by omega) rfl ?_
      simp [takeHead, hix, hix2, hget, hcell, hz, hs2, hp, big, hs0, hs1, m1, m2, hmod1]
  · refine fin a b k none none G ha hb hb2 hk (by omega) (set_same hG).symm ?_
    simp [takeHead, hix, a0]
/-- the bag lies at n; else the store is as it was -/
def Bag (n c : Nat) (G0 G : Ms) : Prop := n < G0.length ∧ ∃ ys, G = G0.set n (.lst ys) ∧ BagL c ys
theorem Bag.mono {n c d : Nat} {G0 G : Ms} (h : Bag n c G0 G) (k : c ≤ d) : Bag n d G0 G := ⟨h.1, h.2.choose, h.2.choose_spec.1, h.2.choose_spec.2.mono k⟩
theorem Bag.len {n c : Nat} {G0 G : Ms} (h : Bag n c G0 G) : G.length = G0.length := by
  obtain ⟨_, ys, rfl, _⟩ := h
  simp
theorem take_app {n c : Nat} {G0 G : Ms} (h : Bag n c G0 G) (A : Ms) (m : Int) (hm : 1 ≤ m) (hm2 : m ≤ 1000000) (hc : c ≤ 1000000) : ∃ v G', F__law_take [.mr n, .d (.int m)] (G ++ A) = .ok (.d (.int v)) (G' ++ A) ∧ 0 ≤ v ∧ v < m ∧ Bag n (c + 1) G0 G' := by
  obtain ⟨hn, ys, rfl, hB⟩ := h
  obtain ⟨v, zs, e, h0, h1, hB2⟩ := law_take_ok n c m (G0.set n (.lst ys) ++ A) ys (by rw [List.getElem?_append_left (by simpa using hn)]; simp [hn]) hB hm hm2 hc
  refine ⟨v, G0.set n (.lst zs), ?_, h0, h1, hn, zs, rfl, hB2⟩
  rw [e, List.set_append_left _ _ (by simpa using hn), List.set_set]
theorem take_bag {n c : Nat} {G0 G : Ms} (h : Bag n c G0 G) (m : Int) (hm : 1 ≤ m) (hm2 : m ≤ 1000000) (hc : c ≤ 1000000) : ∃ v G', F__law_take [.mr n, .d (.int m)] G = .ok (.d (.int v)) G' ∧ 0 ≤ v ∧ v < m ∧ Bag n (c + 1) G0 G' := by
  obtain ⟨v, G', e, h0, h1, hB⟩ := take_app h [] m hm hm2 hc
  rw [List.append_nil, List.append_nil] at e
  exact ⟨v, G', e, h0, h1, hB⟩
theorem some_app {n c : Nat} {G0 G : Ms} (h : Bag n c G0 G) (A : Ms) (xs : List PyData) (hm : 1 ≤ xs.length) (hm2 : xs.length ≤ 1000000) (hc : c ≤ 1000000) : ∃ x G', F__law_some [.mr n, .d (.list xs)] (G ++ A) = .ok (.d x) (G' ++ A) ∧ x ∈ xs ∧ Bag n (c + 1) G0 G' := by
  obtain ⟨v, G', e, h0, h1, hB⟩ := take_app h A (xs.length : Int) (by omega) (by omega) hc
  obtain ⟨x, hx, ex⟩ := atI_mem xs v h0 h1
  refine ⟨x, G', ?_, hx, hB⟩
  unfold F__law_some
  rw [defW_ap]
  have el : G'.length = G.length := by rw [hB.len, h.len]
  have tk : (G' ++ A).take (G ++ A).length = G' ++ A := by rw [List.take_of_length_le (by simp [el])]
  simp only [List.length_append] at tk
  simp [b__law_some, e, ex, tk]
theorem some_bag {n c : Nat} {G0 G : Ms} (h : Bag n c G0 G) (xs : List PyData) (hm : 1 ≤ xs.length) (hm2 : xs.length ≤ 1000000) (hc : c ≤ 1000000) : ∃ x G', F__law_some [.mr n, .d (.list xs)] G = .ok (.d x) G' ∧ x ∈ xs ∧ Bag n (c + 1) G0 G' := by
  obtain ⟨x, G', e, h1, hB⟩ := some_app h [] xs hm hm2 hc
  rw [List.append_nil, List.append_nil] at e
  exact ⟨x, G', e, h1, hB⟩
def absD : PyData → PyData
  | .int z => .int (z.natAbs : Int)
  | x => x
theorem law_bag_ok (ns : List Int) : ∃ G, F__law_bag [.scr ns] [] = .ok (.mr 0) G ∧ Bag 0 0 [.lst []] G := by
  refine ⟨[.lst [.int 0, .int 1234567891, .int 0, .list (((ns.take 63).map fun z => (z.natAbs : Int)).map .int)]], ?_, by simp, _, rfl, 0, 1234567891, 0, (ns.take 63).map fun z => (z.natAbs : Int), rfl, by decide, by decide, by decide, by decide, by decide, ?_, ?_⟩
  · unfold F__law_bag
    rw [defW_ap]
    have sz : (63 : Nat) ≤ sizeLine := by decide
    have hl : (ns.take 63).length ≤ 63 := by simp; omega
    have hs : ∀ G, sliceF true (.scr ns) none (some 63) G = some (.d (.list ((ns.take 63).map .int)), G) := fun G => by
      show newO true ((DL.cutD ns none (some 63)).map .int) G = _
      rw [cutD_to _ _ (by decide)]
      rfl
    have hc : ∀ dw G, dw = [some (DV.scr ns), none] → compN (nameT 1) yesB b__law_bag_e0 .pure dw ((ns.take 63).map .int) [] G = .ok (((ns.take 63).map PyData.int).map absD) G := fun dw G e => by
      subst e
      refine compN_map (nameT 1) b__law_bag_e0 .pure _ G absD ((ns.take 63).map PyData.int) (fun _ => True.intro) (by rw [List.length_map]; omega) fun x hx H => ?_
      obtain ⟨z, _, rfl⟩ := List.mem_map.mp hx
      exact ⟨_, rfl, by simp [b__law_bag_e0, abs_nat, absD]⟩
    have hm : ((ns.take 63).map PyData.int).map absD = ((ns.take 63).map fun z => (z.natAbs : Int)).map .int := by
      rw [List.map_map, List.map_map]
      rfl
    generalize (ns.take 63).map PyData.int = L at *
    rw [hm] at hc
    generalize ((ns.take 63).map fun z => (z.natAbs : Int)).map PyData.int = M at *
    simp [b__law_bag, hs, hc, wipeD, keepM]
  · intro z hz
    obtain ⟨y, _, rfl⟩ := List.mem_map.mp hz
    omega
  · rw [List.length_map]
    simp
    omega
end K02
namespace K02
open PySem PySem.Spec PyProof.Rows L2 LamX DL HullM
noncomputable def F__law_part : FM := defW cutM 11 (b__law_part F__law_take F__law_some F__law_hull)
/-- a drawn part -/
structure PartOk (most : Nat) (p : List Pt) : Prop where
  hull : hull p = some p
  small : ∀ q ∈ p, q.1.natAbs ≤ 30 ∧ q.2.natAbs ≤ 30
  few : p.length ≤ most
  three : 3 ≤ p.length
def smallB (q : Pt) : Bool := decide (q.1.natAbs ≤ 30) && decide (q.2.natAbs ≤ 30)
/-- computed: a hull of some points has few corners, all near -/
def nearB (k : Nat) : Option (List Pt) → Bool
  | none => false
  | some c => decide (c.length ≤ k) && c.all smallB
def oblong (a b : Int) : List Pt := [(0, 0), (a, 0), (a, b), (0, b)]
def slant (a b : Int) : List Pt := [(0, 0), (a, -b), (a + b, a - b), (b, a)]
def four (a b : Int) : List Pt := [(a, b), (-b, a), (-a, -b), (b, -a)]
def eight (a b : Int) : List Pt := [(a, b), (-b, a), (-a, -b), (b, -a), (a, -b), (b, a), (-a, b), (-b, -a)]
theorem range_two {n m : Nat} {f : Int → Int → Bool} (h : ∀ i < n, ∀ j < m, f (i : Int) (j : Int) = true) (a b : Int) (h0 : 0 ≤ a) (h1 : a < n) (h2 : 0 ≤ b) (h3 : b < m) : f a b = true := by
  obtain ⟨i, rfl⟩ := Int.eq_ofNat_of_zero_le h0
  obtain ⟨j, rfl⟩ := Int.eq_ofNat_of_zero_le h2
  exact h i (by omega) j (by omega)
theorem oblong_c : ∀ i < 6, ∀ j < 6, decide (hullI (oblong (1 + ((i : Nat) : Int)) (1 + ((j : Nat) : Int))) = some (oblong (1 + (i : Int)) (1 + (j : Int)))) = true := by decide +kernel
theorem slant_c : ∀ i < 6, ∀ j < 6, decide (hullI (slant (1 + ((i : Nat) : Int)) (1 + ((j : Nat) : Int))) = some (slant (1 + (i : Int)) (1 + (j : Int)))) = true := by decide +kernel
theorem four_c : ∀ i < 5, ∀ j < 3, nearB 4 (hullI (four (2 + ((i : Nat) : Int)) (1 + ((j : Nat) : Int)))) = true := by decide +kernel
theorem eight_c : ∀ i < 5, ∀ j < 3, nearB 8 (hullI (eight (2 + ((i : Nat) : Int)) (1 + ((j : Nat) : Int)))) = true := by decide +kernel
theorem tri_c : hullI [(0, 0), (7, 0), (2, 4)] = some [(0, 0), (7, 0), (2, 4)] := by decide +kernel
theorem oblong_ok (a b : Int) (h0 : 0 ≤ a) (h1 : a < 6) (h2 : 0 ≤ b) (h3 : b < 6) {most : Nat} (hm : 4 ≤ most) : PartOk most (oblong (1 + a) (1 + b)) := by
  refine ⟨?_, ?_, hm, by simp [oblong]⟩
  · rw [hull_I]
    exact of_decide_eq_true (range_two (f := fun a b => decide (hullI (oblong (1 + a) (1 + b)) = some (oblong (1 + a) (1 + b)))) oblong_c a b h0 h1 h2 h3)
  · intro q hq
    simp only [oblong, List.mem_cons, List.not_mem_nil, or_false] at hq
    rcases hq with rfl | rfl | rfl | rfl <;> constructor <;> simp only <;> omega
theorem slant_ok (a b : Int) (h0 : 0 ≤ a) (h1 : a < 6) (h2 : 0 ≤ b) (h3 : b < 6) {most : Nat} (hm : 4 ≤ most) : PartOk most (slant (1 + a) (1 + b)) := by
  refine ⟨?_, ?_, hm, by simp [slant]⟩
  · rw [hull_I]
    exact of_decide_eq_true (range_two (f := fun a b => decide (hullI (slant (1 + a) (1 + b)) = some (slant (1 + a) (1 + b)))) slant_c a b h0 h1 h2 h3)
  · intro q hq
    simp only [slant, List.mem_cons, List.not_mem_nil, or_false] at hq
    rcases hq with rfl | rfl | rfl | rfl <;> constructor <;> simp only <;> omega
theorem near_ok {k most : Nat} {l : List Pt} (h : nearB k (hullI l) = true) (hm : k ≤ most) : ∃ p, hull l = some p ∧ PartOk most p := by
  rw [← hull_I] at h
  cases e : hull l with
  | none =>
    rw [e] at h
    cases h
  | some c =>
    rw [e] at h
    unfold nearB at h
    simp only [Bool.and_eq_true, decide_eq_true_eq, List.all_eq_true] at h
    refine ⟨c, rfl, hull_hull e, fun q hq => ?_, by omega, (hull_sub e).2.2⟩
    have := h.2 q hq
    unfold smallB at this
    simpa using this
theorem tri_ok {most : Nat} (hm : 4 ≤ most) : PartOk most [(0, 0), (7, 0), (2, 4)] := by
  refine ⟨by rw [hull_I]; exact tri_c, ?_, by simp; omega, by simp⟩
  intro q hq
  simp only [List.mem_cons, List.not_mem_nil, or_false] at hq
  rcases hq with rfl | rfl | rfl <;> decide
theorem PartOk.sm {most : Nat} {p : List Pt} (h : PartOk most p) : ∀ q ∈ p, Sm q := fun q hq => by
  have := h.small q hq
  unfold Sm
  omega
/-- points by drawn numbers -/
theorem draw_pts {n c m : Nat} {G0 G : Ms} (h : Bag n c G0 G) (t : TM) (e : EM) (dw : Sl) (Q : Pt → Prop) (hc : c + 2 * m ≤ 900000) (hm : m ≤ 100000)
    (he : ∀ x ∈ rangeD 0 m, ∀ c G acc, c ≤ 900000 → Bag n c G0 G → ∃ ds p G', t (.d x) dw (G ++ [.lst acc]) = some (ds, G ++ [.lst acc]) ∧ e ds (G ++ [.lst acc]) = .ok (.d (ptD p)) (G' ++ [.lst acc]) ∧ Bag n (c + 2) G0 G' ∧ Q p) :
    ∃ l G', compN t yesB e .pure dw (rangeD 0 m) [] G = .ok (ptsD l) G' ∧ Bag n (c + 2 * m) G0 G' ∧ l.length = m ∧ (∀ p ∈ l, Q p) := by
  have sz : sizeLine = 16777216 := rfl
  obtain ⟨ys, G', k1, k2, k3, k4⟩ := compN_cnt t e .pure dw (fun i G => Bag n (c + 2 * i) G0 G) (fun y => ∃ p, y = ptD p ∧ Q p) (rangeD 0 m) [] 0 G (by rw [rangeD_len]; simp; omega) h (fun _ _ _ _ => True.intro) fun x hx j G acc hj hB => by
    rw [rangeD_len] at hj
    obtain ⟨ds, p, G', e1, e2, e3, e4⟩ := he x hx (c + 2 * j) G acc (by omega) hB
    exact ⟨ds, ptD p, G', e1, e2, by rw [e3.len, hB.len], by rw [show c + 2 * (j + 1) = c + 2 * j + 2 by omega]; exact e3, p, rfl, e4⟩
  obtain ⟨l, rfl, hl, hn⟩ := pts_of k4
  rw [rangeD_len, Nat.zero_add] at k2
  exact ⟨l, G', by rw [k1]; rfl, k2, by rw [hn, k3, rangeD_len], hl⟩
def near12 (p : Pt) : Prop := p.1.natAbs ≤ 12 ∧ p.2.natAbs ≤ 12
def negD : PyData → PyData
  | .tuple [.int a, .int b] => .tuple [.int (0 - a), .int (0 - b)]
  | x => x
theorem part_turn {n c : Nat} {G0 G : Ms} (h : Bag n c G0 G) (most : Nat) (hm : 4 ≤ most) (hm2 : most ≤ 50) (hc : c ≤ 800000) (way : Int) (a3 a4 a5 a6 a7 a8 a9 a10 : Option DV) :
    ∃ d5 d7 d8 d9 d10 G', Bag n (c + 101) G0 G' ∧
      ((∃ p, b__law_part_f2 F__law_take F__law_some F__law_hull [some (.mr n), some (.d (.int most)), some (.d (.int way)), a3, a4, a5, a6, a7, a8, a9, a10] G = .rt (.d (.tuple (ptsD p))) G' ∧ PartOk most p) ∨
       b__law_part_f2 F__law_take F__law_some F__law_hull [some (.mr n), some (.d (.int most)), some (.d (.int way)), a3, a4, a5, a6, a7, a8, a9, a10] G = .nx [some (.mr n), some (.d (.int most)), some (.d (.int way)), a3, a4, d5, a6, d7, d8, d9, d10] G') := by
  have sz : sizeLine = 16777216 := rfl
  obtain ⟨v, G1, e1, v0, v1, B1⟩ := take_bag h ((most : Int) - 2) (by omega) (by omega) (by omega)
  obtain ⟨k, rfl⟩ := Int.eq_ofNat_of_zero_le v0
  have hI : iterA range1F (consA (binE (addF true) (kE (.int 3)) (fnE F__law_take (consA (varE 0) (consA (binE subF (varE 1) (kE (.int 2))) nilA)))) nilA) [some (.mr n), some (.d (.int most)), some (.d (.int way)), a3, a4, a5, a6, a7, a8, a9, a10] G = .ok (rangeD 0 (3 + k), .pure) G1 :=
    iter_range1 (i := 3 + (k : Int)) (3 + k) (by simp [e1]) (by omega) (by omega)
  obtain ⟨l, G2, e2, B2, hl, hq⟩ := draw_pts (m := 3 + k) B1 (nameT 8) (b__law_part_e0 F__law_take F__law_some F__law_hull) [some (.mr n), some (.d (.int most)), some (.d (.int way)), a3, a4, a5, a6, a7, none, a9, a10] near12 (by omega) (by omega) fun x hx c G acc hc hB => by
    obtain ⟨u, H1, f1, u0, u1, C1⟩ := take_app hB [.lst acc] 19 (by decide) (by decide) (by omega)
    obtain ⟨w, H2, f2, w0, w1, C2⟩ := take_app C1 [.lst acc] 19 (by decide) (by decide) (by omega)
    refine ⟨_, (u - 6, w - 6), H2, rfl, ?_, C2, ?_⟩
    · simp [b__law_part_e0, f1, f2, sz]
    · constructor <;> simp only <;> omega
  have s1 : asgS (lcE true [8] (iterA range1F (consA (binE (addF true) (kE (.int 3)) (fnE F__law_take (consA (varE 0) (consA (binE subF (varE 1) (kE (.int 2))) nilA)))) nilA)) (nameT 8) yesB (b__law_part_e0 F__law_take F__law_some F__law_hull)) (nameT 5) [some (.mr n), some (.d (.int most)), some (.d (.int way)), a3, a4, a5, a6, a7, a8, a9, a10] G
      = .nx [some (.mr n), some (.d (.int most)), some (.d (.int way)), a3, a4, some (.d (.list (ptsD l))), a6, a7, a8, a9, a10] G2 := by
    rw [asgS_ap, lcE_ap, hI]
    simp [wipeD, e2]
  -- the points that count
  obtain ⟨l2, b9, b10, e3, hl2, hq2⟩ : ∃ l2 b9 b10, ifS (andB (valB (binE (eqF false) (varE 2) (kE (.int 2)))) (valB (binE gtF (varE 1) (kE (.int 5))))) (asgS (binE (addF true) (sliceE true (varE 5) noO (theO (kE (.int 3)))) (lcE true [9, 10] (iterE seqI (sliceE true (varE 5) noO (theO (kE (.int 3))))) (tupT 2 (consT (nameT 9) (consT (nameT 10) nilT))) yesB (b__law_part_e1 F__law_take F__law_some F__law_hull))) (nameT 5)) skipS [some (.mr n), some (.d (.int most)), some (.d (.int way)), a3, a4, some (.d (.list (ptsD l))), a6, a7, a8, a9, a10] G2
      = .nx [some (.mr n), some (.d (.int most)), some (.d (.int way)), a3, a4, some (.d (.list (ptsD l2))), a6, a7, a8, b9, b10] G2 ∧ l2.length < 60 ∧ ∀ p ∈ l2, near12 p := by
    by_cases cw : way = 2 ∧ 5 < most
    · obtain ⟨rfl, c5⟩ := cw
      have c5' : (5 : Int) < (most : Int) := by omega
      have h3 : ∀ G, sliceF true (.d (.list (ptsD l))) none (some 3) G = some (.d (.list (ptsD (l.take 3))), G) := fun G => by
        rw [sliceF_list, cutD_to _ _ (by decide)]
        show newO true ((ptsD l).take 3) G = _
        rw [take_pts]
        rfl
      have hco : ∀ dw G, dw = [some (DV.mr n), some (.d (.int most)), some (.d (.int 2)), a3, a4, some (.d (.list (ptsD l))), a6, a7, a8, none, none] → compN (tupT 2 (consT (nameT 9) (consT (nameT 10) nilT))) yesB (b__law_part_e1 F__law_take F__law_some F__law_hull) .pure dw (ptsD (l.take 3)) [] G = .ok (ptsD ((l.take 3).map fun p => (0 - p.1, 0 - p.2))) G := fun dw G e => by
        subst e
        rw [compN_map _ _ .pure _ G negD (ptsD (l.take 3)) (fun _ => True.intro) (by rw [len_pts, List.length_take]; omega) fun x hx H => ?_]
        · rw [List.map_map]
          show _ = ER.ok (((l.take 3).map fun p => (0 - p.1, 0 - p.2)).map ptD) G
          rw [List.map_map]
          rfl
        · obtain ⟨p, _, rfl⟩ := List.mem_map.mp hx
          exact ⟨_, rfl, by simp [b__law_part_e1, negD]⟩
      have hz : (l.take 3).length ≤ 3 := by rw [List.length_take]; omega
      have n3 : ∀ p ∈ l.take 3, near12 p := fun p hp => hq p (List.mem_of_mem_take hp)
      generalize l.take 3 = T at *
      have ha : (ptsD T).length + (ptsD (T.map fun p => (0 - p.1, 0 - p.2))).length ≤ sizeLine := by
        rw [len_pts, len_pts, List.length_map]
        omega
      have hb := app_pts T (T.map fun p => (0 - p.1, 0 - p.2))
      refine ⟨T ++ T.map fun p => (0 - p.1, 0 - p.2), a9, a10, ?_, ?_, ?_⟩
      · generalize T.map (fun p => (0 - p.1, 0 - p.2)) = U at *
        generalize ptsD (T ++ U) = TU at *
        generalize ptsD U = UD at *
        generalize ptsD T = TD at *
        simp [c5', h3, hco, ha, hb, wipeD]
      · rw [List.length_append, List.length_map]
        omega
      · intro p hp
        rcases List.mem_append.mp hp with hp | hp
        · exact n3 p hp
        · obtain ⟨q, hq, rfl⟩ := List.mem_map.mp hp
          have := n3 q hq
          unfold near12 at *
          simp only
          omega
    · refine ⟨l, a9, a10, ?_, by omega, hq⟩
      by_cases w2 : way = 2
      · have c5' : ¬ (5 : Int) < (most : Int) := by
          intro z
          exact cw ⟨w2, by omega⟩
        simp [w2, c5']
      · simp [w2]
  have eh : ∀ G, F__law_hull [.d (.list (ptsD l2))] G = _ := fun G => law_hull_any (.list (ptsD l2)) l2 (fun _ => rfl) G (fun q hq => by have := hq2 q hq; unfold near12 at this; unfold Sm; omega) hl2
  have B3 : Bag n (c + 101) G0 G2 := B2.mono (by omega)
  unfold b__law_part_f2
  rw [seqS_ap, s1, seq_nx, seqS_ap, e3, seq_nx]
  unfold hullD at eh
  cases hh : hull l2 with
  | none =>
    rw [hh] at eh
    exact ⟨some (.d (.list (ptsD l2))), some (.d .none), a8, b9, b10, G2, B3, .inr (by simp [eh])⟩
  | some p =>
    rw [hh] at eh
    have hs := hull_sub hh
    have pl : ((ptsD p).length : Int) = (p.length : Int) := by rw [len_pts]
    by_cases c : p.length ≤ most
    · have c' : (p.length : Int) ≤ (most : Int) := by omega
      refine ⟨none, none, none, none, none, G2, B3, .inl ⟨p, ?_, hull_hull hh, fun q hq => ?_, c, hs.2.2⟩⟩
      · generalize hP : ptsD p = P at *
        simp [eh, pl, c', hP]
      · have := hq2 q (hs.1 q hq)
        unfold near12 at this
        omega
    · have c' : ¬ (p.length : Int) ≤ (most : Int) := by omega
      refine ⟨some (.d (.list (ptsD l2))), some (.d (.tuple (ptsD p))), a8, b9, b10, G2, B3, .inr ?_⟩
      generalize hP : ptsD p = P at *
      simp [eh, pl, c', hP]
theorem part_loop {n : Nat} {G0 : Ms} (most : Nat) (hm : 4 ≤ most) (hm2 : most ≤ 50) (way : Int) (a3 a4 : Option DV) : ∀ (items : List PyData) (c : Nat) (G : Ms) (a5 a6 a7 a8 a9 a10 : Option DV), c + 101 * items.length ≤ 800000 → Bag n c G0 G →
    ∃ ds' G', Bag n (c + 101 * items.length) G0 G' ∧
      ((∃ p, forN (nameT 6) (b__law_part_f2 F__law_take F__law_some F__law_hull) .pure items [some (.mr n), some (.d (.int most)), some (.d (.int way)), a3, a4, a5, a6, a7, a8, a9, a10] G = .rt (.d (.tuple (ptsD p))) G' ∧ PartOk most p) ∨
       forN (nameT 6) (b__law_part_f2 F__law_take F__law_some F__law_hull) .pure items [some (.mr n), some (.d (.int most)), some (.d (.int way)), a3, a4, a5, a6, a7, a8, a9, a10] G = .nx ds' G')
  | [], c, G, a5, a6, a7, a8, a9, a10, _, h => ⟨_, G, h, .inr (forN_nilP _ _ _ _)⟩
  | i :: items, c, G, a5, a6, a7, a8, a9, a10, hc, h => by
    rw [List.length_cons] at hc
    obtain ⟨d5, d7, d8, d9, d10, G1, B1, k⟩ := part_turn h most hm hm2 (by omega) way a3 a4 a5 (some (.d i)) a7 a8 a9 a10
    rw [forN_consP _ _ _ _ _ _ (ds1 := [some (.mr n), some (.d (.int most)), some (.d (.int way)), a3, a4, a5, some (.d i), a7, a8, a9, a10]) (G1 := G) rfl]
    rcases k with ⟨p, k, hp⟩ | k
    · refine ⟨[], G1, B1.mono (by rw [List.length_cons]; omega), .inl ⟨p, ?_, hp⟩⟩
      rw [k]
      rfl
    · obtain ⟨ds', G', B', r⟩ := part_loop most hm hm2 way a3 a4 items (c + 101) G1 d5 (some (.d i)) d7 d8 d9 d10 (by omega) B1
      refine ⟨ds', G', B'.mono (by rw [List.length_cons]; omega), ?_⟩
      rw [k, turn_nx]
      exact r
theorem law_part_ok {n c : Nat} {G0 G : Ms} (h : Bag n c G0 G) (most : Nat) (hm : 4 ≤ most) (hm2 : most ≤ 50) (hc : c ≤ 700000) :
    ∃ p G', F__law_part [.mr n, .d (.int most)] G = .ok (.d (.tuple (ptsD p))) G' ∧ PartOk most p ∧ Bag n (c + 1000) G0 G' := by
  have sz : sizeLine = 16777216 := rfl
  unfold F__law_part
  rw [defW_ap]
  obtain ⟨way, G1, e1, w0, w1, B1⟩ := take_bag h 6 (by decide) (by decide) (by omega)
  have tk : ∀ {d : Nat} {H : Ms}, Bag n d G0 H → H.take G.length = H := fun hB => by rw [List.take_of_length_le (by rw [hB.len, h.len]; exact Nat.le_refl _)]
  by_cases c0 : way = 0
  · subst c0
    obtain ⟨a, G2, e2, a0, a1, B2⟩ := take_bag B1 6 (by decide) (by decide) (by omega)
    obtain ⟨b, G3, e3, b0, b1, B3⟩ := take_bag B2 6 (by decide) (by decide) (by omega)
    obtain ⟨x, G4, e4, hx, B4⟩ := some_bag B3 [.tuple (ptsD (oblong (1 + a) (1 + b))), .tuple (ptsD (oblong (1 + a) (1 + a))), .tuple (ptsD (slant (1 + a) (1 + b)))] (by simp) (by simp) (by omega)
    have t4 := tk B4
    have k4 : Bag n (c + 1000) G0 G4 := B4.mono (by omega)
    have run : exitM cutM G.length (b__law_part F__law_take F__law_some F__law_hull ([DV.mr n, .d (.int most)].map some ++ List.replicate (11 - [DV.mr n, .d (.int most)].length) none) G) = .ok (.d x) G4 := by
      obtain ⟨A, hA⟩ : ∃ A, A = 1 + a := ⟨_, rfl⟩
      obtain ⟨B, hB⟩ : ∃ B, B = 1 + b := ⟨_, rfl⟩
      rw [← hA, ← hB] at e4
      simp [oblong, slant] at e4
      simp [b__law_part, e1, e2, e3, ← hA, ← hB, e4, t4, sz]
    have fin : ∀ p, x = .tuple (ptsD p) → PartOk most p → _ := fun p ex hp => (⟨p, G4, by rw [run, ex], hp, k4⟩ : ∃ p G', exitM cutM G.length (b__law_part F__law_take F__law_some F__law_hull ([DV.mr n, .d (.int most)].map some ++ List.replicate (11 - [DV.mr n, .d (.int most)].length) none) G) = .ok (.d (.tuple (ptsD p))) G' ∧ PartOk most p ∧ Bag n (c + 1000) G0 G')
    simp only [List.mem_cons, List.not_mem_nil, or_false] at hx
    rcases hx with hx | hx | hx
    · exact fin _ hx (oblong_ok a b a0 a1 b0 b1 hm)
    · exact fin _ hx (oblong_ok a a a0 a1 a0 a1 hm)
    · exact fin _ hx (slant_ok a b a0 a1 b0 b1 hm)
  by_cases c1 : way = 1
  · subst c1
    obtain ⟨a, G2, e2, a0, a1, B2⟩ := take_bag B1 5 (by decide) (by decide) (by omega)
    obtain ⟨b, G3, e3, b0, b1, B3⟩ := take_bag B2 3 (by decide) (by decide) (by omega)
    have t3 := tk B3
    have k3 : Bag n (c + 1000) G0 G3 := B3.mono (by omega)
    by_cases c7 : 7 < most
    · have c7' : (7 : Int) < (most : Int) := by omega
      obtain ⟨p, ep, hp⟩ := near_ok (range_two (f := fun a b => nearB 8 (hullI (eight (2 + a) (1 + b)))) eight_c a b a0 a1 b0 b1) (show 8 ≤ most by omega)
      have eh : ∀ G, F__law_hull [.d (.list (ptsD (eight (2 + a) (1 + b))))] G = _ := fun G => law_hull_any (.list (ptsD (eight (2 + a) (1 + b)))) _ (fun _ => rfl) G (fun q hq => by
        unfold Sm
        simp only [eight, List.mem_cons, List.not_mem_nil, or_false] at hq
        rcases hq with rfl | rfl | rfl | rfl | rfl | rfl | rfl | rfl <;> constructor <;> simp only <;> omega) (by simp [eight])
      unfold hullD at eh
      rw [ep] at eh
      refine ⟨p, G3, ?_, hp, k3⟩
      obtain ⟨A, hA⟩ : ∃ A, A = 2 + a := ⟨_, rfl⟩
      obtain ⟨B, hB⟩ : ∃ B, B = 1 + b := ⟨_, rfl⟩
      rw [← hA, ← hB] at eh
      generalize hP : ptsD p = P at *
      simp [eight] at eh
      simp [b__law_part, e1, e2, e3, ← hA, ← hB, c7', eh, t3, sz, hP]
    · have c7' : ¬ (7 : Int) < (most : Int) := by omega
      obtain ⟨p, ep, hp⟩ := near_ok (range_two (f := fun a b => nearB 4 (hullI (four (2 + a) (1 + b)))) four_c a b a0 a1 b0 b1) hm
      have eh : ∀ G, F__law_hull [.d (.list (ptsD (four (2 + a) (1 + b))))] G = _ := fun G => law_hull_any (.list (ptsD (four (2 + a) (1 + b)))) _ (fun _ => rfl) G (fun q hq => by
        unfold Sm
        simp only [four, List.mem_cons, List.not_mem_nil, or_false] at hq
        rcases hq with rfl | rfl | rfl | rfl <;> constructor <;> simp only <;> omega) (by simp [four])
      unfold hullD at eh
      rw [ep] at eh
      refine ⟨p, G3, ?_, hp, k3⟩
      obtain ⟨A, hA⟩ : ∃ A, A = 2 + a := ⟨_, rfl⟩
      obtain ⟨B, hB⟩ : ∃ B, B = 1 + b := ⟨_, rfl⟩
      rw [← hA, ← hB] at eh
      generalize hP : ptsD p = P at *
      simp [four] at eh
      simp [b__law_part, e1, e2, e3, ← hA, ← hB, c7', eh, t3, sz, hP]
  · have hI : ∀ ds H, iterA range1F (consA (kE (.int 9)) nilA) ds H = .ok (rangeD 0 9, .pure) H := fun ds H => iter_range1 (i := 9) 9 (by simp) (by decide) (by decide)
    obtain ⟨ds', G', B', k⟩ := part_loop most hm hm2 way none none (rangeD 0 9) (c + 1) G1 none none none none none none (by rw [rangeD_len]; omega) B1
    rw [rangeD_len] at B'
    have t' := tk B'
    have k' : Bag n (c + 1000) G0 G' := B'.mono (by omega)
    rcases k with ⟨p, k, hp⟩ | k
    · refine ⟨p, G', ?_, hp, k'⟩
      generalize hP : ptsD p = P at *
      simp [b__law_part, e1, c0, c1, hI, k, t', hP]
    · refine ⟨[(0, 0), (7, 0), (2, 4)], G', ?_, tri_ok hm, k'⟩
      simp [b__law_part, e1, c0, c1, hI, k, t', sz]
end K02
namespace K02
open PySem PySem.Spec PyProof.Rows L2 LamX DL HullM
noncomputable def F_sides_of : FM := defW cutM 4 b_sides_of
noncomputable def F_double_area : FM := defW cutM 4 b_double_area
noncomputable def F_is_within : FM := defW cutM 5 (b_is_within F_turn_of)
noncomputable def F_shifted (ad : Ad) : FM := defW cutM 4 (b_shifted (F_checked_part ad))
noncomputable def F_frame_of : FM := defW cutM 5 b_frame_of
noncomputable def F_first_on_left : FM := defW cutM 6 b_first_on_left
noncomputable def F_far_along : FM := defW cutM 5 b_far_along
noncomputable def F__law_gcd : FM := defW cutM 3 b__law_gcd
/-- the two rows that are zipped -/
theorem zip_args (c : List Pt) (h : 1 ≤ c.length) (hz : c.length ≤ 1000) (ds : Sl) (G : Ms) (h0 : ds[0]? = some (some (.d (.tuple (ptsD c))))) :
    ∃ ws, (consA (varE 0) (consA (callE tupF (starA (sliceE true (varE 0) (theO (kE (.int 1))) noO) (consA (binE ixF (varE 0) (kE (.int 0))) nilA))) nilA)) ds G = .ok ws G ∧ zipF ws G = some (((stepP (steps c)).map nbrD, .pure), G) := by
  have sz : sizeLine = 16777216 := rfl
  match c, h with
  | a :: r, _ =>
    refine ⟨[.d (.tuple (ptsD (a :: r))), .d (.tuple (ptsD (r ++ [a])))], ?_, ?_⟩
    · have s1 : ∀ G, sliceF true (.d (.tuple (ptsD (a :: r)))) (some 1) none G = some (.d (.tuple (ptsD r)), G) := fun G => by
        show some (DV.d (.tuple (DL.cutD (ptsD (a :: r)) (some 1) none)), G) = _
        rw [cutD_from _ _ (by decide)]
        rfl
      have a0 : atI (ptsD (a :: r)) 0 = some (ptD a) := atI_0 _ _
      have z : (ptsD r).length + 1 ≤ sizeLine := by rw [len_pts]; simp at hz; omega
      have e : ptsD r ++ [ptD a] = ptsD (r ++ [a]) := app_pts r [a]
      rw [← e]
      generalize ptsD r = R at *
      generalize ptsD (a :: r) = P at *
      have hd : datas (List.map DV.d R ++ [DV.d (ptD a)]) = some (R ++ [ptD a]) := datas_app R [ptD a]
      simp [h0, s1, a0, z, hd]
    · show some ((zipD (ptsD (a :: r)) (ptsD (r ++ [a])), Src.pure), G) = _
      rw [zip_steps]
      rfl
theorem steps_small {c : List Pt} (hs : ∀ q ∈ c, Sm q) {p : Pt × Pt} (hp : p ∈ stepP (steps c)) : Sm p.1 ∧ Sm p.2 := ⟨hs _ (steps_mem (stepP_mem hp).1), hs _ (steps_mem (stepP_mem hp).2)⟩
theorem steps_few {c : List Pt} (h : 1 ≤ c.length) : (stepP (steps c)).length = c.length := by rw [stepP_len, steps_len h]; omega
def sidesC (c : List Pt) : List Pt := (stepP (steps c)).map fun p => sub p.2 p.1
theorem sides_of_eq (c : List Pt) (h : 1 ≤ c.length) (hz : c.length ≤ 1000) (G : Ms) : F_sides_of [.d (.tuple (ptsD c))] G = .ok (.d (.tuple (ptsD (sidesC c)))) G := by
  have sz : sizeLine = 16777216 := rfl
  unfold F_sides_of
  rw [defW_ap]
  obtain ⟨ws, h1, h2⟩ := zip_args c h hz [some (.d (.tuple (ptsD c))), none, none, none] G rfl
  have h3 := compN_of (tupT 2 (consT (nameT 2) (consT (nameT 3) nilT))) b_sides_of_e0 [some (.d (.tuple (ptsD c))), none, none, none] nbrD (fun p => ptD (sub p.2 p.1)) (stepP (steps c)) [] G (by rw [steps_few h]; simp; omega) fun p _ H => ⟨_, rfl, by simp [b_sides_of_e0, sub]⟩
  have e := zlcE_ok (i := 1) (vs := [2, 3]) (ds := [some (.d (.tuple (ptsD c))), none, none, none]) h1 (by simp) h2 h3
  have em : List.map (fun p => ptD (sub p.2 p.1)) (stepP (steps c)) = ptsD (sidesC c) := by
    unfold sidesC
    show _ = List.map ptD _
    rw [List.map_map]
    rfl
  rw [List.nil_append, em] at e
  generalize ptsD (sidesC c) = S at *
  generalize hP : ptsD c = P at *
  simp [b_sides_of, e]
theorem double_area_eq (c : List Pt) (h : 1 ≤ c.length) (hz : c.length ≤ 1000) (hs : ∀ q ∈ c, Sm q) (G : Ms) : F_double_area [.d (.tuple (ptsD c))] G = .ok (.d (.int (shoe (steps c)))) G := by
  have sz : sizeLine = 16777216 := rfl
  unfold F_double_area
  rw [defW_ap]
  obtain ⟨ws, h1, h2⟩ := zip_args c h hz [some (.d (.tuple (ptsD c))), none, none, none] G rfl
  have h3 := compN_of (tupT 2 (consT (nameT 2) (consT (nameT 3) nilT))) b_double_area_e0 [some (.d (.tuple (ptsD c))), none, none, none] nbrD (fun p => .int (cross p.1 p.2)) (stepP (steps c)) [] G (by rw [steps_few h]; simp; omega) fun p hp H => ⟨_, rfl, by
    obtain ⟨s1, s2⟩ := steps_small hs hp
    unfold Sm at s1 s2
    have m1 : ∀ G, mulF (.d (.int p.1.1)) (.d (.int p.2.2)) G = _ := fun G => mulF_int _ _ G (by omega) (by omega)
    have m2 : ∀ G, mulF (.d (.int p.1.2)) (.d (.int p.2.1)) G = _ := fun G => mulF_int _ _ G (by omega) (by omega)
    simp [b_double_area_e0, m1, m2, cross]⟩
  have e := zlcE_ok (i := 1) (vs := [2, 3]) (ds := [some (.d (.tuple (ptsD c))), none, none, none]) h1 (by simp) h2 h3
  have em : List.map (fun p : Pt × Pt => PyData.int (cross p.1 p.2)) (stepP (steps c)) = ((stepP (steps c)).map fun p => cross p.1 p.2).map .int := by
    rw [List.map_map]
    rfl
  rw [List.nil_append, em] at e
  have es := shoe_sum (steps c)
  generalize (stepP (steps c)).map (fun p => cross p.1 p.2) = L at *
  have hsum : ∀ G, sumF [.d (.list (L.map .int))] G = some (.d (.int (shoe (steps c))), G) := fun G => by
    show ofInts (fun ns => some ns.sum) [.d (.list (L.map .int))] G = _
    unfold ofInts
    simp [es]
  generalize L.map PyData.int = S at *
  generalize hP : ptsD c = P at *
  simp [b_double_area, e, hsum]
noncomputable def inB (c : List Pt) (q : Pt) : Bool := ((stepP (steps c)).map fun p => decide (0 ≤ turn p.1 p.2 q)).all id
theorem is_within_eq (c : List Pt) (q : Pt) (h : 1 ≤ c.length) (hz : c.length ≤ 1000) (hs : ∀ q ∈ c, Sm q) (hq : Sm q) (G : Ms) : F_is_within [.d (.tuple (ptsD c)), .d (ptD q)] G = .ok (.d (.bool (inB c q))) G := by
  have sz : sizeLine = 16777216 := rfl
  unfold F_is_within
  rw [defW_ap]
  obtain ⟨ws, h1, h2⟩ := zip_args c h hz [some (.d (.tuple (ptsD c))), some (.d (ptD q)), none, none, none] G rfl
  have h3 := compN_of (tupT 2 (consT (nameT 3) (consT (nameT 4) nilT))) (b_is_within_e0 F_turn_of) [some (.d (.tuple (ptsD c))), some (.d (ptD q)), none, none, none] nbrD (fun p => .bool (decide (0 ≤ turn p.1 p.2 q))) (stepP (steps c)) [] G (by rw [steps_few h]; simp; omega) fun p hp H => ⟨_, rfl, by
    obtain ⟨s1, s2⟩ := steps_small hs hp
    have ht : ∀ G, F_turn_of [.d (ptD p.1), .d (ptD p.2), .d (ptD q)] G = _ := fun G => turn_of_eq p.1 p.2 q G s1 s2 hq
    simp [b_is_within_e0, ht]⟩
  have e := zlcE_ok (i := 2) (vs := [3, 4]) (ds := [some (.d (.tuple (ptsD c))), some (.d (ptD q)), none, none, none]) h1 (by simp) h2 h3
  have em : List.map (fun p : Pt × Pt => PyData.bool (decide (0 ≤ turn p.1 p.2 q))) (stepP (steps c)) = ((stepP (steps c)).map fun p => decide (0 ≤ turn p.1 p.2 q)).map .bool := by
    rw [List.map_map]
    rfl
  rw [List.nil_append, em] at e
  unfold inB
  generalize (stepP (steps c)).map (fun p => decide (0 ≤ turn p.1 p.2 q)) = L at *
  generalize hP : ptsD c = P at *
  have hall : ∀ G, allF [.d (.list (L.map .bool))] G = some (.d (.bool (L.all id)), G) := fun G => ofBools_ap _ _ G
  generalize hS : L.map PyData.bool = S at *
  simp [b_is_within, e, hall]
theorem inB_iff {c : List Pt} (e : hull c = some c) (q : Pt) : inB c q = decide (hull (c ++ [q]) = some c) := by
  rw [Bool.eq_iff_iff, decide_eq_true_eq, ← within_iff e q]
  exact ge_all q (steps c)
end K02
namespace K02
open PySem PySem.Spec PyProof.Rows L2 LamX DL HullM
theorem shifted_eq (ad : Ad) (c : List Pt) (v : Pt) (hz : c.length ≤ 1000) (G : Ms) : F_shifted ad [.d (.tuple (ptsD c)), .d (ptD v)] G = chkR (c.map (mv v)) G := by
  have sz : sizeLine = 16777216 := rfl
  unfold F_shifted
  rw [defW_ap]
  have h3 := fun G => compN_of (tupT 2 (consT (nameT 2) (consT (nameT 3) nilT))) (b_shifted_e0 (F_checked_part ad)) [some (.d (.tuple (ptsD c))), some (.d (ptD v)), none, none] ptD (fun p => ptD (mv v p)) c [] G (by simp; omega) fun p hp H => ⟨_, rfl, by simp [b_shifted_e0, mv]⟩
  have em : List.map (fun p => ptD (mv v p)) c = ptsD (c.map (mv v)) := by
    show _ = List.map ptD _
    rw [List.map_map]
    rfl
  rw [List.nil_append, em] at h3
  have hc : ∀ G, F_checked_part ad [.d (.tuple (ptsD (c.map (mv v))))] G = _ := fun G => checked_part_pts ad (c.map (mv v)) (by rw [List.length_map]; omega) G
  generalize hM : c.map (mv v) = M at *
  generalize hS : ptsD M = S at *
  generalize hP : ptsD c = P at *
  have hP2 : List.map ptD c = P := hP
  simp only [hP2] at h3
  simp [b_shifted, h3, wipeD, hc]
  unfold chkR
  by_cases c3 : M.length < 3
  · simp [c3]
  · by_cases c10 : 10 < M.length
    · simp [c3, c10]
    · cases hf : farK 0 M with
      | some k => simp [c3, c10]
      | none =>
        by_cases ch : hull M = some M
        · simp [c3, c10, ch]
        · simp [c3, c10, ch]
/-- the least and the greatest of numbers -/
def lo : List Int → Int
  | [] => 0
  | x :: r => r.foldl min x
def hi : List Int → Int
  | [] => 0
  | x :: r => r.foldl max x
theorem minF_ints (l : List Int) (h : 1 ≤ l.length) (G : Ms) : minF [.d (.list (l.map .int))] G = some (.d (.int (lo l)), G) := by
  match l, h with
  | x :: r, _ =>
    show (match ((lstOf G (.d (.list ((x :: r).map .int)))).bind intsD).bind leastI with | some i => some (DV.d (.int i), G) | none => none) = _
    rw [lstOf_list, Option.bind_some, intsD_map, Option.bind_some]
    rfl
theorem maxF_ints (l : List Int) (h : 1 ≤ l.length) (G : Ms) : maxF [.d (.list (l.map .int))] G = some (.d (.int (hi l)), G) := by
  match l, h with
  | x :: r, _ =>
    show (match ((lstOf G (.d (.list ((x :: r).map .int)))).bind intsD).bind mostI with | some i => some (DV.d (.int i), G) | none => none) = _
    rw [lstOf_list, Option.bind_some, intsD_map, Option.bind_some]
    rfl
theorem ints_map {α : Type} (f : α → Int) (l : List α) : l.map (fun x => PyData.int (f x)) = (l.map f).map .int := by
  rw [List.map_map]
  rfl
theorem frame_of_eq (c : List Pt) (h : 1 ≤ c.length) (hz : c.length ≤ 1000) (G : Ms) : F_frame_of [.d (.tuple (ptsD c))] G = .ok (.d (.tuple [.int (lo (c.map (·.1))), .int (lo (c.map (·.2))), .int (hi (c.map (·.1))), .int (hi (c.map (·.2)))])) G := by
  have sz : sizeLine = 16777216 := rfl
  unfold F_frame_of
  rw [defW_ap]
  have h3 : ∀ a1 a2 G, compN (tupT 2 (consT (nameT 3) (consT (nameT 4) nilT))) yesB b_frame_of_e0 .pure [some (.d (.tuple (ptsD c))), a1, a2, none, none] (ptsD c) [] G = .ok ((c.map (·.1)).map .int) G := fun a1 a2 G => by
    rw [← ints_map]
    exact compN_of (tupT 2 (consT (nameT 3) (consT (nameT 4) nilT))) b_frame_of_e0 [some (.d (.tuple (ptsD c))), a1, a2, none, none] ptD (fun p => .int p.1) c [] G (by simp; omega) fun p hp H => ⟨_, rfl, by simp [b_frame_of_e0]⟩
  have h4 : ∀ a1 a2 G, compN (tupT 2 (consT (nameT 3) (consT (nameT 4) nilT))) yesB b_frame_of_e1 .pure [some (.d (.tuple (ptsD c))), a1, a2, none, none] (ptsD c) [] G = .ok ((c.map (·.2)).map .int) G := fun a1 a2 G => by
    rw [← ints_map]
    exact compN_of (tupT 2 (consT (nameT 3) (consT (nameT 4) nilT))) b_frame_of_e1 [some (.d (.tuple (ptsD c))), a1, a2, none, none] ptD (fun p => .int p.2) c [] G (by simp; omega) fun p hp H => ⟨_, rfl, by simp [b_frame_of_e1]⟩
  have m1 := minF_ints (c.map (·.1)) (by rw [List.length_map]; exact h)
  have m2 := minF_ints (c.map (·.2)) (by rw [List.length_map]; exact h)
  have m3 := maxF_ints (c.map (·.1)) (by rw [List.length_map]; exact h)
  have m4 := maxF_ints (c.map (·.2)) (by rw [List.length_map]; exact h)
  generalize c.map (·.1) = X at *
  generalize c.map (·.2) = Y at *
  generalize X.map PyData.int = XD at *
  generalize Y.map PyData.int = YD at *
  generalize hP : ptsD c = P at *
  simp [b_frame_of, h3, h4, wipeD, m1, m2, m3, m4]
def dotC (v p : Pt) : Int := v.1 * p.1 + v.2 * p.2
theorem far_along_eq (c : List Pt) (v : Pt) (h : 1 ≤ c.length) (hz : c.length ≤ 1000) (hs : ∀ q ∈ c, Sm q) (hv : Sm v) (G : Ms) : F_far_along [.d (.tuple (ptsD c)), .d (ptD v)] G = .ok (.d (.tuple [.int (lo (c.map (dotC v))), .int (hi (c.map (dotC v)))])) G := by
  have sz : sizeLine = 16777216 := rfl
  unfold F_far_along
  rw [defW_ap]
  have h3 : ∀ G, compN (tupT 2 (consT (nameT 3) (consT (nameT 4) nilT))) yesB b_far_along_e0 .pure [some (.d (.tuple (ptsD c))), some (.d (ptD v)), none, none, none] (ptsD c) [] G = .ok ((c.map (dotC v)).map .int) G := fun G => by
    rw [← ints_map]
    exact compN_of (tupT 2 (consT (nameT 3) (consT (nameT 4) nilT))) b_far_along_e0 [some (.d (.tuple (ptsD c))), some (.d (ptD v)), none, none, none] ptD (fun p => .int (dotC v p)) c [] G (by simp; omega) fun p hp H => ⟨_, rfl, by
      have s1 := hs p hp
      unfold Sm at s1 hv
      have m1 : ∀ G, mulF (.d (.int v.1)) (.d (.int p.1)) G = _ := fun G => mulF_int _ _ G (by omega) (by omega)
      have m2 : ∀ G, mulF (.d (.int v.2)) (.d (.int p.2)) G = _ := fun G => mulF_int _ _ G (by omega) (by omega)
      simp [b_far_along_e0, m1, m2, dotC]⟩
  have m1 := minF_ints (c.map (dotC v)) (by rw [List.length_map]; exact h)
  have m3 := maxF_ints (c.map (dotC v)) (by rw [List.length_map]; exact h)
  generalize c.map (dotC v) = X at *
  generalize X.map PyData.int = XD at *
  generalize hP : ptsD c = P at *
  simp [b_far_along, h3, wipeD, m1, m3]
/-! ### first_on_left -/
def numP : Nat → List Pt → List (Nat × Pt)
  | _, [] => []
  | k, p :: r => (k, p) :: numP (k + 1) r
theorem nums_P : ∀ (c : List Pt) (k : Nat), numsD k (ptsD c) = (numP k c).map fun q => .tuple [.int (q.1 : Nat), ptD q.2]
  | [], _ => rfl
  | p :: c, k => by
    show PyData.tuple [.int (k : Nat), ptD p] :: numsD (k + 1) (ptsD c) = _
    rw [nums_P c (k + 1)]
    rfl
theorem numP_len : ∀ (c : List Pt) (k : Nat), (numP k c).length = c.length
  | [], _ => rfl
  | p :: c, k => by rw [numP, List.length_cons, numP_len c, List.length_cons]
theorem numP_mem : ∀ {c : List Pt} {k : Nat} {q : Nat × Pt}, q ∈ numP k c → q.2 ∈ c
  | [], _, _, h => by cases h
  | p :: c, k, q, h => by
    rcases List.mem_cons.mp h with rfl | h
    · simp
    · exact List.mem_cons_of_mem _ (numP_mem h)
theorem rows_P (v : Pt) : ∀ (c : List Pt) (k : Nat), ((numP k c).map fun q => PyData.tuple [.int (-(cross v q.2)), .int (q.1 : Nat)]) = (rowsN (k : Int) (c.map (cross v))).map rowT
  | [], _ => rfl
  | p :: c, k => by
    show PyData.tuple [.int (-(cross v p)), .int (k : Nat)] :: ((numP (k + 1) c).map fun q => PyData.tuple [.int (-(cross v q.2)), .int (q.1 : Nat)]) = _
    rw [rows_P v c (k + 1)]
    rfl
theorem rowsN_ne : ∀ (r : List Int) (k : Int), ∀ x ∈ rowsN k r, x ≠ []
  | [], _, _, h => by cases h
  | x :: r, k, y, h => by
    rcases List.mem_cons.mp h with rfl | h
    · simp
    · exact rowsN_ne r (k + 1) y h
theorem first_on_left_eq (c : List Pt) (v : Pt) (h : 1 ≤ c.length) (hz : c.length ≤ 1000) (hs : ∀ q ∈ c, Sm q) (hv : Sm v) (G : Ms) :
    ∃ q ∈ c, atI (ptsD c) ((((c.map (cross v)).idxOf (hi (c.map (cross v))) : Nat) : Int)) = some (ptD q) ∧ F_first_on_left [.d (.tuple (ptsD c)), .d (ptD v)] G = .ok (.d (ptD q)) G := by
  have sz : sizeLine = 16777216 := rfl
  have h3 : ∀ G, compN (tupT 2 (consT (nameT 3) (consT (tupT 2 (consT (nameT 4) (consT (nameT 5) nilT))) nilT))) yesB b_first_on_left_e0 .pure [some (.d (.tuple (ptsD c))), some (.d (ptD v)), none, none, none, none] (enumD (ptsD c)) [] G = .ok ((rowsN 0 (c.map (cross v))).map rowT) G := fun G => by
    have hr := rows_P v c 0
    rw [enumD_nums, nums_P]
    rw [show ((0 : Nat) : Int) = 0 from rfl] at hr
    rw [← hr]
    exact compN_of (tupT 2 (consT (nameT 3) (consT (tupT 2 (consT (nameT 4) (consT (nameT 5) nilT))) nilT))) b_first_on_left_e0 [some (.d (.tuple (ptsD c))), some (.d (ptD v)), none, none, none, none] (fun q => .tuple [.int (q.1 : Nat), ptD q.2]) (fun q => .tuple [.int (-(cross v q.2)), .int (q.1 : Nat)]) (numP 0 c) [] G (by rw [numP_len]; simp; omega) fun q hq H => ⟨_, rfl, by
      have s1 := hs q.2 (numP_mem hq)
      unfold Sm at s1 hv
      have m1 : ∀ G, mulF (.d (.int v.1)) (.d (.int q.2.2)) G = _ := fun G => mulF_int _ _ G (by omega) (by omega)
      have m2 : ∀ G, mulF (.d (.int v.2)) (.d (.int q.2.1)) G = _ := fun G => mulF_int _ _ G (by omega) (by omega)
      simp [b_first_on_left_e0, m1, m2, cross]⟩
  obtain ⟨x, r, hn⟩ : ∃ x r, c.map (cross v) = x :: r := by
    match c, h with
    | p :: c, _ => exact ⟨_, _, rfl⟩
  have hl : (c.map (cross v)).length = c.length := List.length_map ..
  obtain ⟨e1, e2⟩ := minRow_first x r
  rw [hn] at h3 hl ⊢
  have ei : hi (x :: r) = r.foldl max x := rfl
  rw [ei]
  generalize hJ : (x :: r).idxOf (r.foldl max x) = J at *
  obtain ⟨y, hy, ey⟩ := atI_mem (ptsD c) (J : Int) (by omega) (by rw [len_pts]; omega)
  obtain ⟨q, hq, rfl⟩ := List.mem_map.mp hy
  refine ⟨q, hq, ey, ?_⟩
  unfold F_first_on_left
  rw [defW_ap]
  have hm : ∀ G, minRowF [.d (.list ((rowsN 0 (x :: r)).map rowT))] G = some (.d (.tuple [.int (-(r.foldl max x)), .int (J : Nat)]), G) := fun G => by
    unfold minRowF
    simp only [lstOf_list, Option.bind_some]
    rw [rowsD_rows _ (rowsN_ne _ _)]
    have : rowsN 0 (x :: r) = [-x, 0] :: rowsN 1 r := rfl
    rw [this]
    simp only
    rw [e1]
    rfl
  have hE : ∀ G, enumTI (.d (.tuple (ptsD c))) G = some ((enumD (ptsD c), .pure), G) := fun G => rfl
  generalize (rowsN 0 (x :: r)).map rowT = R at *
  generalize hP : ptsD c = P at *
  simp [b_first_on_left, hE, h3, wipeD, hm, ey]
/-! ### the common divisor -/
theorem gcd_loop (G : Ms) : ∀ (items : List PyData) (a b : Int) (x : Option DV), 0 ≤ a → 0 ≤ b → a ≤ 1000 → b ≤ 1000 → (a ≠ 0 ∨ b ≠ 0) → b.toNat < items.length →
    ∃ g, forN (nameT 2) b__law_gcd_f0 .pure items [some (.d (.int a)), some (.d (.int b)), x] G = .rt (.d (.int g)) G ∧ 1 ≤ g ∧ g ≤ 1000
  | [], a, b, x, _, _, _, _, _, h => absurd h (by simp)
  | i :: items, a, b, x, ha, hb, ha2, hb2, hn, hl => by
    rw [List.length_cons] at hl
    rw [forN_consP _ _ _ _ _ _ (ds1 := [some (.d (.int a)), some (.d (.int b)), some (.d i)]) (G1 := G) rfl]
    by_cases c : b = 0
    · refine ⟨a, ?_, by omega, ha2⟩
      have : b__law_gcd_f0 [some (.d (.int a)), some (.d (.int b)), some (.d i)] G = .rt (.d (.int a)) G := by simp [b__law_gcd_f0, c]
      rw [this]
      rfl
    · have hm : ∀ G, modF (.d (.int a)) (.d (.int b)) G = _ := fun G => modF_int a b G c
      have r := fmod_range (a := a) (m := b) (by omega)
      obtain ⟨g, e, h1, h2⟩ := gcd_loop G items b (a.fmod b) (some (.d i)) hb r.1 hb2 (by omega) (.inl c) (by omega)
      refine ⟨g, ?_, h1, h2⟩
      have : b__law_gcd_f0 [some (.d (.int a)), some (.d (.int b)), some (.d i)] G = .nx [some (.d (.int b)), some (.d (.int (a.fmod b))), some (.d i)] G := by simp [b__law_gcd_f0, c, hm]
      rw [this, turn_nx, e]
theorem law_gcd_ok (a b : Int) (ha : a.natAbs ≤ 1000) (hb : b.natAbs ≤ 1000) (hn : a ≠ 0 ∨ b ≠ 0) (G : Ms) : ∃ g, F__law_gcd [.d (.int a), .d (.int b)] G = .ok (.d (.int g)) G ∧ 1 ≤ g ∧ g ≤ 1000 := by
  obtain ⟨g, e, h1, h2⟩ := gcd_loop G (rangeD 0 4000) (a.natAbs : Int) (b.natAbs : Int) none (by omega) (by omega) (by omega) (by omega) (by omega) (by rw [rangeD_len]; omega)
  refine ⟨g, ?_, h1, h2⟩
  have hI : ∀ ds H, iterA range1F (consA (kE (.int 4000)) nilA) ds H = .ok (rangeD 0 4000, .pure) H := fun ds H => iter_range1 (i := 4000) 4000 (by simp) (by decide) (by decide)
  unfold F__law_gcd
  rw [defW_ap]
  generalize rangeD 0 4000 = R at *
  simp [b__law_gcd, abs_nat, hI, e]
end K02
namespace K02
open PySem PySem.Spec PyProof.Rows L2 LamX DL HullM
noncomputable def F_law (ad : Ad) : FM := defW cutM 28 (b_law F__law_bag F__law_part F__law_cross F__law_alike F_frame_of F_double_area F_sides_of F__law_take F__law_some F__law_gcd F__law_hull F_is_within F_first_on_left F_far_along (F_shifted ad))
def NxT (p : SR) (Q : Sl → Ms → Prop) : Prop := ∃ ds G, p = .nx ds G ∧ Q ds G
theorem NxT.seq {a b : SM} {ds ds1 : Sl} {G G1 : Ms} {Q : Sl → Ms → Prop} (h : a ds G = .nx ds1 G1) (k : NxT (b ds1 G1) Q) : NxT (seqS a b ds G) Q := by
  rw [seqS_ap, h, seq_nx]
  exact k
theorem NxT.of {a : SM} {ds ds1 : Sl} {G G1 : Ms} {Q : Sl → Ms → Prop} (h : a ds G = .nx ds1 G1) (k : Q ds1 G1) : NxT (a ds G) Q := ⟨ds1, G1, h, k⟩
theorem told_ok (z : Str) (n : Nat) (mb : EM) (hs : List HM) (ds : Sl) (G G1 : Ms) (x : PyData) (h : mb ds G = .ok (.d x) G1) : toldE z n mb hs ds G = .ok (.d (.tuple [.str z, x])) G1 := by
  unfold toldE
  rw [h]
theorem told_exn (z : Str) (n : Nat) (mb : EM) (hs : List HM) (ds : Sl) (G G1 : Ms) (x : XD) (h : mb ds G = .exn x G1) : toldE z n mb hs ds G = rtM (handM hs x (List.replicate n none) G1) := by
  unfold toldE
  rw [h]
theorem hand_part (a b : PyData) (G : Ms) : rtM (handM h__law_raised ⟨"BadPart", [("fault", b), ("number", a)]⟩ (List.replicate 2 none) G) = .ok (.d (.tuple [.str "part", a, b])) G := by
  rfl
theorem Bag.app {n c : Nat} {G0 G : Ms} (h : Bag n c G0 G) (A : Ms) : Bag n c (G0 ++ A) (G ++ A) := by
  obtain ⟨hn, ys, rfl, hB⟩ := h
  exact ⟨by rw [List.length_append]; omega, ys, by rw [List.set_append_left _ _ hn], hB⟩
theorem hi_mem {l : List Int} (h : 1 ≤ l.length) : hi l ∈ l := by
  match l, h with
  | x :: r, _ => exact (foldl_max r x).1
theorem lo_mem {l : List Int} (h : 1 ≤ l.length) : lo l ∈ l := by
  match l, h with
  | x :: r, _ => exact (foldl_min r x).1
theorem sides_mv (v : Pt) (c : List Pt) : sidesC (c.map (mv v)) = sidesC c := by
  have e : steps (c.map (mv v)) = (steps c).map (mv v) := by
    unfold steps
    rw [List.map_append, List.map_take]
  unfold sidesC
  rw [e]
  have k : ∀ l : List Pt, (stepP (l.map (mv v))).map (fun p => sub p.2 p.1) = (stepP l).map fun p => sub p.2 p.1 := by
    intro l
    induction l with
    | nil => rfl
    | cons a l ih =>
      cases l with
      | nil => rfl
      | cons b l =>
        show sub (mv v b) (mv v a) :: (stepP ((b :: l).map (mv v))).map (fun p => sub p.2 p.1) = sub b a :: (stepP (b :: l)).map fun p => sub p.2 p.1
        rw [ih]
        congr 1
        unfold sub mv
        simp only [Prod.mk.injEq]
        constructor <;> omega
  exact k (steps c)
/-- the area, corner by corner -/
theorem area_loop (ad : Ad) (o : Pt) (ho : Sm o) (a0 a1 a2 a3 a4 a10 a11 a12 a13 a14 a15 a16 a17 a18 a19 a20 a21 a22 a23 a24 a25 a26 a27 : Option DV) (G : Ms) : ∀ (l : List Pt) (acc : Int) (a8 a9 : Option DV), (∀ q ∈ l, Sm q) →
    ∃ b8 b9, forN (tupT 2 (consT (nameT 8) (consT (nameT 9) nilT))) (b_law_f1 F__law_bag F__law_part F__law_cross F__law_alike F_frame_of F_double_area F_sides_of F__law_take F__law_some F__law_gcd F__law_hull F_is_within F_first_on_left F_far_along (F_shifted ad)) .pure ((stepP l).map nbrD) [a0, a1, a2, a3, a4, some (.d (.int o.1)), some (.d (.int o.2)), some (.d (.int acc)), a8, a9, a10, a11, a12, a13, a14, a15, a16, a17, a18, a19, a20, a21, a22, a23, a24, a25, a26, a27] G = .nx [a0, a1, a2, a3, a4, some (.d (.int o.1)), some (.d (.int o.2)), some (.d (.int (acc + fan o l))), b8, b9, a10, a11, a12, a13, a14, a15, a16, a17, a18, a19, a20, a21, a22, a23, a24, a25, a26, a27] G
  | [], acc, a8, a9, _ => ⟨a8, a9, by
    show forN _ _ _ [] _ _ = _
    rw [forN_nilP]
    show _ = SR.nx [a0, a1, a2, a3, a4, some (.d (.int o.1)), some (.d (.int o.2)), some (.d (.int (acc + 0))), a8, a9, a10, a11, a12, a13, a14, a15, a16, a17, a18, a19, a20, a21, a22, a23, a24, a25, a26, a27] G
    rw [Int.add_zero]⟩
  | [x], acc, a8, a9, _ => ⟨a8, a9, by
    show forN _ _ _ [] _ _ = _
    rw [forN_nilP]
    show _ = SR.nx [a0, a1, a2, a3, a4, some (.d (.int o.1)), some (.d (.int o.2)), some (.d (.int (acc + 0))), a8, a9, a10, a11, a12, a13, a14, a15, a16, a17, a18, a19, a20, a21, a22, a23, a24, a25, a26, a27] G
    rw [Int.add_zero]⟩
  | x :: y :: l, acc, a8, a9, hs => by
    have hx := hs x (by simp)
    have hy := hs y (by simp)
    have hc : ∀ G, F__law_cross [.d (.tuple [.int (x.1 - o.1), .int (x.2 - o.2)]), .d (.tuple [.int (y.1 - o.1), .int (y.2 - o.2)])] G = .ok (.d (.int (cross (sub x o) (sub y o)))) G := fun G => by
      unfold Sm at hx hy ho
      exact law_cross_eq (sub x o) (sub y o) G (by unfold sub; simp only; omega) (by unfold sub; simp only; omega) (by unfold sub; simp only; omega) (by unfold sub; simp only; omega)
    obtain ⟨b8, b9, ih⟩ := area_loop ad o ho a0 a1 a2 a3 a4 a10 a11 a12 a13 a14 a15 a16 a17 a18 a19 a20 a21 a22 a23 a24 a25 a26 a27 G (y :: l) (acc + cross (sub x o) (sub y o)) (some (.d (ptD x))) (some (.d (ptD y))) fun q hq => hs q (by simp [hq])
    refine ⟨b8, b9, ?_⟩
    show forN _ _ _ (nbrD (x, y) :: (stepP (y :: l)).map nbrD) _ _ = _
    rw [forN_consP _ _ _ _ _ _ (ds1 := [a0, a1, a2, a3, a4, some (.d (.int o.1)), some (.d (.int o.2)), some (.d (.int acc)), some (.d (ptD x)), some (.d (ptD y)), a10, a11, a12, a13, a14, a15, a16, a17, a18, a19, a20, a21, a22, a23, a24, a25, a26, a27]) (G1 := G) rfl]
    have k : b_law_f1 F__law_bag F__law_part F__law_cross F__law_alike F_frame_of F_double_area F_sides_of F__law_take F__law_some F__law_gcd F__law_hull F_is_within F_first_on_left F_far_along (F_shifted ad) [a0, a1, a2, a3, a4, some (.d (.int o.1)), some (.d (.int o.2)), some (.d (.int acc)), some (.d (ptD x)), some (.d (ptD y)), a10, a11, a12, a13, a14, a15, a16, a17, a18, a19, a20, a21, a22, a23, a24, a25, a26, a27] G = .nx [a0, a1, a2, a3, a4, some (.d (.int o.1)), some (.d (.int o.2)), some (.d (.int (acc + cross (sub x o) (sub y o)))), some (.d (ptD x)), some (.d (ptD y)), a10, a11, a12, a13, a14, a15, a16, a17, a18, a19, a20, a21, a22, a23, a24, a25, a26, a27] G := by
      generalize hC : cross (sub x o) (sub y o) = C at *
      simp [b_law_f1, hc]
    rw [k, turn_nx, ih]
    show _ = SR.nx [a0, a1, a2, a3, a4, some (.d (.int o.1)), some (.d (.int o.2)), some (.d (.int (acc + (cross (sub x o) (sub y o) + fan o (y :: l))))), b8, b9, a10, a11, a12, a13, a14, a15, a16, a17, a18, a19, a20, a21, a22, a23, a24, a25, a26, a27] G
    rw [Int.add_assoc]

/-- a spot: within, just if the hull stays -/
theorem spot_loop (ad : Ad) {p : List Pt} (hp : PartOk 8 p) (a0 a1 a2 a4 a5 a6 a7 a8 a9 a10 a11 a12 a13 a14 a15 a16 a19 a20 a21 a22 a23 a24 a25 a26 a27 : Option DV) (s : Src) (G : Ms) (ok : s.ok G) : ∀ (l : List Pt) (a17 a18 : Option DV), (∀ q ∈ l, Sm q) →
    ∃ b17 b18, forN (nameT 17) (b_law_f4 F__law_bag F__law_part F__law_cross F__law_alike F_frame_of F_double_area F_sides_of F__law_take F__law_some F__law_gcd F__law_hull F_is_within F_first_on_left F_far_along (F_shifted ad)) s (ptsD l) [a0, a1, a2, some (.d (.tuple (ptsD p))), a4, a5, a6, a7, a8, a9, a10, a11, a12, a13, a14, a15, a16, a17, a18, a19, a20, a21, a22, a23, a24, a25, a26, a27] G = .nx [a0, a1, a2, some (.d (.tuple (ptsD p))), a4, a5, a6, a7, a8, a9, a10, a11, a12, a13, a14, a15, a16, b17, b18, a19, a20, a21, a22, a23, a24, a25, a26, a27] G
  | [], a17, a18, _ => ⟨a17, a18, forN_nil _ _ _ _ _ ok⟩
  | q :: l, a17, a18, hs => by
    have sz : sizeLine = 16777216 := rfl
    have hq := hs q (by simp)
    have few := hp.few
    have three := hp.three
    have spq : ∀ x ∈ p ++ [q], Sm x := fun x hx => by
      rcases List.mem_append.mp hx with hx | hx
      · exact hp.sm x hx
      · rw [List.mem_singleton.mp hx]
        exact hq
    have h1 : ∀ G, F__law_hull [.d (.list (ptsD (p ++ [q])))] G = .ok (.d (hullD (p ++ [q]))) G := fun G => law_hull_any (.list (ptsD (p ++ [q]))) (p ++ [q]) (fun _ => rfl) G spq (by rw [List.length_append, List.length_singleton]; omega)
    have h2 : ∀ G, F_is_within [.d (.tuple (ptsD p)), .d (ptD q)] G = .ok (.d (.bool (decide (hull (p ++ [q]) = some p)))) G := fun G => by
      rw [is_within_eq p q (by omega) (by omega) hp.sm hq, inB_iff hp.hull]
    have h3 : ∀ G, eqF false (.d (hullD (p ++ [q]))) (.d (.tuple (ptsD p))) G = _ := fun G => eqF_hull (p ++ [q]) p G
    have h4 : ∀ b G, F__law_alike [.d (.bool b), .d (.bool b)] G = _ := fun b G => law_alike_eq _ fit_bool G
    have z : (ptsD p).length + 1 ≤ sizeLine := by rw [len_pts]; omega
    have e : ptsD p ++ [ptD q] = ptsD (p ++ [q]) := app_pts p [q]
    obtain ⟨b17, b18, ih⟩ := spot_loop ad hp a0 a1 a2 a4 a5 a6 a7 a8 a9 a10 a11 a12 a13 a14 a15 a16 a19 a20 a21 a22 a23 a24 a25 a26 a27 s G ok l (some (.d (ptD q))) (some (.d (hullD (p ++ [q])))) fun x hx => hs x (by simp [hx])
    refine ⟨b17, b18, ?_⟩
    show forN _ _ _ (ptD q :: ptsD l) _ _ = _
    rw [forN_cons _ _ _ _ _ _ _ ok (ds1 := [a0, a1, a2, some (.d (.tuple (ptsD p))), a4, a5, a6, a7, a8, a9, a10, a11, a12, a13, a14, a15, a16, some (.d (ptD q)), a18, a19, a20, a21, a22, a23, a24, a25, a26, a27]) (G1 := G) rfl]
    have k : b_law_f4 F__law_bag F__law_part F__law_cross F__law_alike F_frame_of F_double_area F_sides_of F__law_take F__law_some F__law_gcd F__law_hull F_is_within F_first_on_left F_far_along (F_shifted ad) [a0, a1, a2, some (.d (.tuple (ptsD p))), a4, a5, a6, a7, a8, a9, a10, a11, a12, a13, a14, a15, a16, some (.d (ptD q)), a18, a19, a20, a21, a22, a23, a24, a25, a26, a27] G = .nx [a0, a1, a2, some (.d (.tuple (ptsD p))), a4, a5, a6, a7, a8, a9, a10, a11, a12, a13, a14, a15, a16, some (.d (ptD q)), some (.d (hullD (p ++ [q]))), a19, a20, a21, a22, a23, a24, a25, a26, a27] G := by
      rw [← e] at h1
      generalize hullD (p ++ [q]) = H at *
      generalize decide (hull (p ++ [q]) = some p) = B at *
      generalize hP : ptsD p = P at *
      simp [b_law_f4, h1, h2, h3, h4, z]
    rw [k, turn_nx, ih]

theorem lap_ok (ad : Ad) (ns : List Int) {c : Nat} {G0 G : Ms} (h : Bag 0 c G0 G) (hc : c ≤ 500000) (a2 a3 a4 a5 a6 a7 a8 a9 a10 a11 a12 a13 a14 a15 a16 a17 a18 a19 a20 a21 a22 a23 a24 a25 a26 a27 : Option DV) :
    NxT (b_law_f10 F__law_bag F__law_part F__law_cross F__law_alike F_frame_of F_double_area F_sides_of F__law_take F__law_some F__law_gcd F__law_hull F_is_within F_first_on_left F_far_along (F_shifted ad) [some (.scr ns), some (.mr 0), a2, a3, a4, a5, a6, a7, a8, a9, a10, a11, a12, a13, a14, a15, a16, a17, a18, a19, a20, a21, a22, a23, a24, a25, a26, a27] G) fun ds G' => ∃ t G0', ds = some (.scr ns) :: some (.mr 0) :: t ∧ t.length = 26 ∧ Bag 0 (c + 3000) G0' G' := by
  have sz : sizeLine = 16777216 := rfl
  unfold b_law_f10
  -- the part
  obtain ⟨p, G1, e1, hp, B1⟩ := law_part_ok h 8 (by decide) (by decide) (by omega)
  have few := hp.few
  have three := hp.three
  refine NxT.seq (ds1 := [some (.scr ns), some (.mr 0), a2, some (.d (.tuple (ptsD p))), a4, a5, a6, a7, a8, a9, a10, a11, a12, a13, a14, a15, a16, a17, a18, a19, a20, a21, a22, a23, a24, a25, a26, a27]) (G1 := G1) (by generalize hP : ptsD p = P at *; simp at e1; simp [e1, hP]) ?_
  -- sides
  have c1 : ∀ G, sliceF true (.d (.tuple (ptsD p))) (some 1) none G = some (.d (.tuple (ptsD (p.drop 1))), G) := fun G => by
    show some (DV.d (.tuple (DL.cutD (ptsD p) (some 1) none)), G) = _
    rw [cutD_from _ _ (by decide), ← drop_pts]
    rfl
  have c2 : ∀ G, sliceF true (.d (.tuple (ptsD p))) none (some 1) G = some (.d (.tuple (ptsD (p.take 1))), G) := fun G => by
    show some (DV.d (.tuple (DL.cutD (ptsD p) none (some 1))), G) = _
    rw [cutD_to _ _ (by decide), ← take_pts]
    rfl
  have c3 : ∀ G, sliceF true (.d (.tuple (ptsD p))) (some 2) none G = some (.d (.tuple (ptsD (p.drop 2))), G) := fun G => by
    show some (DV.d (.tuple (DL.cutD (ptsD p) (some 2) none)), G) = _
    rw [cutD_from _ _ (by decide), ← drop_pts]
    rfl
  obtain ⟨SD, hSD⟩ : ∃ SD, SD = ptsD (sidesC p) := ⟨_, rfl⟩
  obtain ⟨o, o1, pr, ep⟩ : ∃ o o1 pr, p = o :: o1 :: pr := by
    match p, three with
    | a :: b :: r, _ => exact ⟨a, b, r, rfl⟩
  have so : Sm o := hp.sm o (by rw [ep]; simp)
  have z1 : (ptsD (p.drop 1)).length + (ptsD (p.take 1)).length ≤ sizeLine := by rw [len_pts, len_pts, List.length_take, List.length_drop]; omega
  have hz2 : ∀ G, zipF [.d (.tuple (ptsD p)), .d (.tuple (ptsD (p.drop 1) ++ ptsD (p.take 1)))] G = some (((stepP (steps p)).map nbrD, .pure), G) := fun G => by
    rw [ep]
    show some ((zipD (ptsD (o :: o1 :: pr)) (ptsD (o1 :: pr) ++ ptsD [o]), Src.pure), G) = _
    rw [app_pts, zip_steps]
    rfl
  have hI2 : iterA zipF (consA (varE 3) (consA (binE (addF true) (sliceE true (varE 3) (theO (kE (.int 1))) noO) (sliceE true (varE 3) noO (theO (kE (.int 1))))) nilA)) [some (.scr ns), some (.mr 0), a2, some (.d (.tuple (ptsD p))), a4, a5, a6, a7, a8, a9, a10, a11, a12, a13, a14, a15, a16, a17, a18, a19, a20, a21, a22, a23, a24, a25, a26, a27] G1 = .ok ((stepP (steps p)).map nbrD, .pure) G1 := by
    refine iterA_ok (vs := [.d (.tuple (ptsD p)), .d (.tuple (ptsD (p.drop 1) ++ ptsD (p.take 1)))]) (G1 := G1) ?_ (hz2 G1)
    generalize ptsD (p.drop 1) = P1 at *
    generalize ptsD (p.take 1) = P2 at *
    generalize hP : ptsD p = P at *
    simp [c1, c2, z1]
  have e2 : ∀ G, compN (tupT 2 (consT (nameT 8) (consT (nameT 9) nilT))) yesB (b_law_e0 F__law_bag F__law_part F__law_cross F__law_alike F_frame_of F_double_area F_sides_of F__law_take F__law_some F__law_gcd F__law_hull F_is_within F_first_on_left F_far_along (F_shifted ad)) .pure [some (.scr ns), some (.mr 0), a2, some (.d (.tuple (ptsD p))), a4, a5, a6, a7, none, none, a10, a11, a12, a13, a14, a15, a16, a17, a18, a19, a20, a21, a22, a23, a24, a25, a26, a27] ((stepP (steps p)).map nbrD) [] G = .ok SD G := fun G => by
    rw [hSD]
    have k := compN_of (tupT 2 (consT (nameT 8) (consT (nameT 9) nilT))) (b_law_e0 F__law_bag F__law_part F__law_cross F__law_alike F_frame_of F_double_area F_sides_of F__law_take F__law_some F__law_gcd F__law_hull F_is_within F_first_on_left F_far_along (F_shifted ad)) [some (.scr ns), some (.mr 0), a2, some (.d (.tuple (ptsD p))), a4, a5, a6, a7, none, none, a10, a11, a12, a13, a14, a15, a16, a17, a18, a19, a20, a21, a22, a23, a24, a25, a26, a27] nbrD (fun q => ptD (sub q.2 q.1)) (stepP (steps p)) [] G (by rw [steps_few (by omega)]; simp; omega) fun q _ H => ⟨_, rfl, by simp [b_law_e0, sub]⟩
    rw [k, List.nil_append]
    unfold sidesC
    show _ = ER.ok (List.map ptD _) G
    rw [List.map_map]
    rfl
  refine NxT.seq (ds1 := [some (.scr ns), some (.mr 0), a2, some (.d (.tuple (ptsD p))), some (.d (.tuple SD)), a5, a6, a7, a8, a9, a10, a11, a12, a13, a14, a15, a16, a17, a18, a19, a20, a21, a22, a23, a24, a25, a26, a27]) (G1 := G1) (by
    rw [asgS_ap, callE_ap, consA_ap, lcE_ap, hI2]
    simp [wipeD, e2]) ?_
  -- x, y, the area
  have a0 : atI (ptsD p) 0 = some (ptD o) := by rw [ep]; exact atI_0 _ _
  refine NxT.seq (ds1 := [some (.scr ns), some (.mr 0), a2, some (.d (.tuple (ptsD p))), some (.d (.tuple SD)), some (.d (.int o.1)), some (.d (.int o.2)), a7, a8, a9, a10, a11, a12, a13, a14, a15, a16, a17, a18, a19, a20, a21, a22, a23, a24, a25, a26, a27]) (G1 := G1) (by generalize hP : ptsD p = P at *; simp [a0]) ?_
  refine NxT.seq (ds1 := [some (.scr ns), some (.mr 0), a2, some (.d (.tuple (ptsD p))), some (.d (.tuple SD)), some (.d (.int o.1)), some (.d (.int o.2)), some (.d (.int 0)), a8, a9, a10, a11, a12, a13, a14, a15, a16, a17, a18, a19, a20, a21, a22, a23, a24, a25, a26, a27]) (G1 := G1) (by simp) ?_
  obtain ⟨b8, b9, k5⟩ := area_loop ad o so (some (.scr ns)) (some (.mr 0)) a2 (some (.d (.tuple (ptsD p)))) (some (.d (.tuple SD))) a10 a11 a12 a13 a14 a15 a16 a17 a18 a19 a20 a21 a22 a23 a24 a25 a26 a27 G1 (o1 :: pr) 0 a8 a9 fun q hq => hp.sm q (by rw [ep]; exact List.mem_cons_of_mem _ hq)
  have hI5 : iterA zipF (consA (sliceE true (varE 3) (theO (kE (.int 1))) noO) (consA (sliceE true (varE 3) (theO (kE (.int 2))) noO) nilA)) [some (.scr ns), some (.mr 0), a2, some (.d (.tuple (ptsD p))), some (.d (.tuple SD)), some (.d (.int o.1)), some (.d (.int o.2)), some (.d (.int 0)), a8, a9, a10, a11, a12, a13, a14, a15, a16, a17, a18, a19, a20, a21, a22, a23, a24, a25, a26, a27] G1 = .ok ((stepP (o1 :: pr)).map nbrD, .pure) G1 := by
    refine iterA_ok (vs := [.d (.tuple (ptsD (p.drop 1))), .d (.tuple (ptsD (p.drop 2)))]) (G1 := G1) ?_ ?_
    · generalize ptsD (p.drop 1) = P1 at *
      generalize ptsD (p.drop 2) = P2 at *
      generalize hP : ptsD p = P at *
      simp [c1, c3]
    · rw [ep]
      show some ((zipD (ptsD (o1 :: pr)) (ptsD pr), Src.pure), G1) = _
      rw [zip_next]
  have ea : (0 : Int) + fan o (o1 :: pr) = shoe (steps p) := by rw [ep, ← area_fan]; omega
  rw [ea] at k5
  refine NxT.seq (ds1 := [some (.scr ns), some (.mr 0), a2, some (.d (.tuple (ptsD p))), some (.d (.tuple SD)), some (.d (.int o.1)), some (.d (.int o.2)), some (.d (.int (shoe (steps p)))), b8, b9, a10, a11, a12, a13, a14, a15, a16, a17, a18, a19, a20, a21, a22, a23, a24, a25, a26, a27]) (G1 := G1) (by rw [forS_ap, hI5, eS_ok, forK_ap]; exact k5) ?_
  -- xs, ys
  obtain ⟨XD, hXD⟩ : ∃ XD, XD = (p.map (·.1)).map PyData.int := ⟨_, rfl⟩
  obtain ⟨YD, hYD⟩ : ∃ YD, YD = (p.map (·.2)).map PyData.int := ⟨_, rfl⟩
  have e6 : ∀ G, compN (nameT 25) yesB (b_law_e2 F__law_bag F__law_part F__law_cross F__law_alike F_frame_of F_double_area F_sides_of F__law_take F__law_some F__law_gcd F__law_hull F_is_within F_first_on_left F_far_along (F_shifted ad)) .pure [some (.scr ns), some (.mr 0), a2, some (.d (.tuple (ptsD p))), some (.d (.tuple SD)), some (.d (.int o.1)), some (.d (.int o.2)), some (.d (.int (shoe (steps p)))), b8, b9, a10, a11, a12, a13, a14, a15, a16, a17, a18, a19, a20, a21, a22, a23, a24, none, a26, a27] (ptsD p) [] G = .ok XD G := fun G => by
    rw [hXD, ← ints_map]
    exact compN_of (nameT 25) _ _ ptD (fun q => .int q.1) p [] G (by simp; omega) fun q _ H => ⟨_, rfl, by simp [b_law_e2]⟩
  have e7 : ∀ G, compN (nameT 25) yesB (b_law_e3 F__law_bag F__law_part F__law_cross F__law_alike F_frame_of F_double_area F_sides_of F__law_take F__law_some F__law_gcd F__law_hull F_is_within F_first_on_left F_far_along (F_shifted ad)) .pure [some (.scr ns), some (.mr 0), a2, some (.d (.tuple (ptsD p))), some (.d (.tuple SD)), some (.d (.int o.1)), some (.d (.int o.2)), some (.d (.int (shoe (steps p)))), b8, b9, a10, a11, a12, a13, a14, a15, a16, a17, a18, a19, a20, a21, a22, a23, a24, none, a26, a27] (ptsD p) [] G = .ok YD G := fun G => by
    rw [hYD, ← ints_map]
    exact compN_of (nameT 25) _ _ ptD (fun q => .int q.2) p [] G (by simp; omega) fun q _ H => ⟨_, rfl, by simp [b_law_e3]⟩
  refine NxT.seq (ds1 := [some (.scr ns), some (.mr 0), a2, some (.d (.tuple (ptsD p))), some (.d (.tuple SD)), some (.d (.int o.1)), some (.d (.int o.2)), some (.d (.int (shoe (steps p)))), b8, b9, some (.d (.list XD)), some (.d (.list YD)), a12, a13, a14, a15, a16, a17, a18, a19, a20, a21, a22, a23, a24, a25, a26, a27]) (G1 := G1) (by
    generalize hP : ptsD p = P at *
    simp [e6, e7, wipeD]) ?_
  -- sides_of, double_area, frame_of
  have q1 : ∀ G, F_sides_of [.d (.tuple (ptsD p))] G = .ok (.d (.tuple SD)) G := fun G => by rw [hSD]; exact sides_of_eq p (by omega) (by omega) G
  have q2 : ∀ G, F_double_area [.d (.tuple (ptsD p))] G = _ := fun G => double_area_eq p (by omega) (by omega) hp.sm G
  have q3 : ∀ G, F_frame_of [.d (.tuple (ptsD p))] G = _ := fun G => frame_of_eq p (by omega) (by omega) G
  have m1 : ∀ G, minF [.d (.list XD)] G = some (.d (.int (lo (p.map (·.1)))), G) := by rw [hXD]; exact minF_ints _ (by rw [List.length_map]; omega)
  have m2 : ∀ G, minF [.d (.list YD)] G = some (.d (.int (lo (p.map (·.2)))), G) := by rw [hYD]; exact minF_ints _ (by rw [List.length_map]; omega)
  have m3 : ∀ G, maxF [.d (.list XD)] G = some (.d (.int (hi (p.map (·.1)))), G) := by rw [hXD]; exact maxF_ints _ (by rw [List.length_map]; omega)
  have m4 : ∀ G, maxF [.d (.list YD)] G = some (.d (.int (hi (p.map (·.2)))), G) := by rw [hYD]; exact maxF_ints _ (by rw [List.length_map]; omega)
  have bx : ∀ i ∈ p.map (·.1), i.natAbs ≤ 30 := fun i hi => by
    obtain ⟨q, hq, rfl⟩ := List.mem_map.mp hi
    exact (hp.small q hq).1
  have by' : ∀ i ∈ p.map (·.2), i.natAbs ≤ 30 := fun i hi => by
    obtain ⟨q, hq, rfl⟩ := List.mem_map.mp hi
    exact (hp.small q hq).2
  have n1 := bx _ (lo_mem (l := p.map (·.1)) (by rw [List.length_map]; omega))
  have n2 := by' _ (lo_mem (l := p.map (·.2)) (by rw [List.length_map]; omega))
  have n3 := bx _ (hi_mem (l := p.map (·.1)) (by rw [List.length_map]; omega))
  have n4 := by' _ (hi_mem (l := p.map (·.2)) (by rw [List.length_map]; omega))
  have sb : ∀ q ∈ sidesC p, q.1.natAbs ≤ 60 ∧ q.2.natAbs ≤ 60 := fun q hq => by
    unfold sidesC at hq
    obtain ⟨r, hr, rfl⟩ := List.mem_map.mp hq
    have h1 := hp.small _ (steps_mem (stepP_mem hr).1)
    have h2 := hp.small _ (steps_mem (stepP_mem hr).2)
    unfold sub
    simp only
    omega
  have sl : (sidesC p).length = p.length := by
    unfold sidesC
    rw [List.length_map, steps_few (by omega)]
  have ab : ∀ l : List Pt, (∀ q ∈ l, q.1.natAbs ≤ 30 ∧ q.2.natAbs ≤ 30) → (shoe l).natAbs ≤ 2000 * l.length := by
    intro l
    induction l with
    | nil => intro _; simp [shoe]
    | cons x l ih =>
      intro hl
      cases l with
      | nil => simp [shoe]
      | cons y l =>
        have i1 := ih fun q hq => hl q (List.mem_cons_of_mem _ hq)
        have h1 := hl x (by simp)
        have h2 := hl y (by simp)
        have k1 := Int.natAbs_mul x.1 y.2
        have k2 := Int.natAbs_mul x.2 y.1
        have k3 : x.1.natAbs * y.2.natAbs ≤ 30 * 30 := Nat.mul_le_mul h1.1 h2.2
        have k4 : x.2.natAbs * y.1.natAbs ≤ 30 * 30 := Nat.mul_le_mul h1.2 h2.1
        show (cross x y + shoe (y :: l)).natAbs ≤ 2000 * (y :: l).length.succ
        unfold cross
        generalize x.1 * y.2 = X at *
        generalize x.2 * y.1 = Y at *
        generalize shoe (y :: l) = Z at *
        omega
  have sa := ab (steps p) fun q hq => hp.small q (steps_mem hq)
  rw [steps_len (by omega)] at sa
  have fS : Fit 3 400 (.tuple SD) := by
    rw [hSD]
    exact (fit_pts (n := 8) (fun q hq => by have := sb q hq; omega) (by omega)).mono (by decide) (by decide)
  have fF : Fit 3 400 (.tuple [.int (lo (p.map (·.1))), .int (lo (p.map (·.2))), .int (hi (p.map (·.1))), .int (hi (p.map (·.2)))]) := (fit_tup (d := 0) (w := 0) (n := 4) (fa_cons (fit_int (by omega)) (fa_cons (fit_int (by omega)) (fa_cons (fit_int (by omega)) (fa_cons (fit_int (by omega)) fa_nil)))) (Nat.le_refl _)).mono (by decide) (by decide)
  have q4 : ∀ G, F__law_alike [.d (.list [.tuple SD, .int (shoe (steps p)), .tuple [.int (lo (p.map (·.1))), .int (lo (p.map (·.2))), .int (hi (p.map (·.1))), .int (hi (p.map (·.2)))]]), .d (.list [.tuple SD, .int (shoe (steps p)), .tuple [.int (lo (p.map (·.1))), .int (lo (p.map (·.2))), .int (hi (p.map (·.1))), .int (hi (p.map (·.2)))]])] G = _ := fun G => law_alike_eq _ ((fit_list (d := 3) (w := 400) (n := 3) (fa_cons fS (fa_cons (fit_int (by omega)) (fa_cons fF fa_nil))) (Nat.le_refl _)).mono (by decide) (by decide)) G
  have ap := area_pos hp.hull
  refine NxT.seq (ds1 := [some (.scr ns), some (.mr 0), a2, some (.d (.tuple (ptsD p))), some (.d (.tuple SD)), some (.d (.int o.1)), some (.d (.int o.2)), some (.d (.int (shoe (steps p)))), b8, b9, some (.d (.list XD)), some (.d (.list YD)), a12, a13, a14, a15, a16, a17, a18, a19, a20, a21, a22, a23, a24, a25, a26, a27]) (G1 := G1) (by
    have ap2 : ¬ shoe (steps p) ≤ 0 := by omega
    generalize shoe (steps p) = AR at *
    generalize hX : p.map (·.1) = X at *
    generalize hY : p.map (·.2) = Y at *
    generalize hP : ptsD p = P at *
    simp [q1, q2, q3, q4, m1, m2, m3, m4, ap2]) ?_
  -- some
  obtain ⟨s1, G2, f1, hs1, B2⟩ := some_bag B1 (ptsD p) (by rw [len_pts]; omega) (by rw [len_pts]; omega) (by omega)
  obtain ⟨s1, hs1', rfl⟩ := List.mem_map.mp hs1
  obtain ⟨u1, G3, f2, u10, u11, B3⟩ := take_bag B2 21 (by decide) (by decide) (by omega)
  obtain ⟨u2, G4, f3, u20, u21, B4⟩ := take_bag B3 21 (by decide) (by decide) (by omega)
  obtain ⟨u3, G5, f4, u30, u31, B5⟩ := take_bag B4 9 (by decide) (by decide) (by omega)
  obtain ⟨u4, G6, f5, u40, u41, B6⟩ := take_bag B5 9 (by decide) (by decide) (by omega)
  obtain ⟨U1, hU1⟩ : ∃ U, U = u1 - 8 := ⟨_, rfl⟩
  obtain ⟨U2, hU2⟩ : ∃ U, U = u2 - 8 := ⟨_, rfl⟩
  refine NxT.seq (ds1 := [some (.scr ns), some (.mr 0), a2, some (.d (.tuple (ptsD p))), some (.d (.tuple SD)), some (.d (.int o.1)), some (.d (.int o.2)), some (.d (.int (shoe (steps p)))), b8, b9, some (.d (.list XD)), some (.d (.list YD)), some (.mr G6.length), a13, a14, a15, a16, a17, a18, a19, a20, a21, a22, a23, a24, a25, a26, a27]) (G1 := G6 ++ [MO.lst (ptsD [s1, (U1, U2), (u3, u4)])]) (by
    generalize hP : ptsD p = P at *
    simp [f1, f2, f3, f4, f5, ← hU1, ← hU2]) ?_
  -- one step along a side
  obtain ⟨k, G7, f6, k0, k1, B7⟩ := take_app B6 [MO.lst (ptsD [s1, (U1, U2), (u3, u4)])] (p.length : Int) (by omega) (by omega) (by omega)
  have lp : ((ptsD p).length : Int) = (p.length : Int) := by rw [len_pts]
  refine NxT.seq (ds1 := [some (.scr ns), some (.mr 0), a2, some (.d (.tuple (ptsD p))), some (.d (.tuple SD)), some (.d (.int o.1)), some (.d (.int o.2)), some (.d (.int (shoe (steps p)))), b8, b9, some (.d (.list XD)), some (.d (.list YD)), some (.mr G6.length), some (.d (.int k)), a14, a15, a16, a17, a18, a19, a20, a21, a22, a23, a24, a25, a26, a27]) (G1 := G7 ++ [MO.lst (ptsD [s1, (U1, U2), (u3, u4)])]) (by generalize hP : ptsD p = P at *; simp at f6; simp [lp, f6]) ?_
  obtain ⟨_, hq, eq⟩ := atI_mem (ptsD p) k k0 (by rw [len_pts]; exact k1)
  obtain ⟨q, hq', rfl⟩ := List.mem_map.mp hq
  obtain ⟨_, hr, er⟩ := atI_mem SD k k0 (by rw [hSD, len_pts, sl]; exact k1)
  rw [hSD] at hr
  obtain ⟨r, hr', rfl⟩ := List.mem_map.mp hr
  have nq := hp.small q hq'
  have nr := sb r hr'
  have rn : r.1 ≠ 0 ∨ r.2 ≠ 0 := by
    unfold sidesC at hr'
    obtain ⟨x, hx, rfl⟩ := List.mem_map.mp hr'
    obtain ⟨m, R, _, _⟩ := ring_rows hp.hull
    have es : steps p = p ++ [m] := by
      have := R.head
      rw [ep] at this ⊢
      cases this
      rfl
    rw [es] at hx
    have key : ∀ l : List Pt, Walk (· ∈ p) l → x ∈ stepP l → x.1 ≠ x.2 := by
      intro l
      induction l with
      | nil => intro _ h; cases h
      | cons a l ih =>
        intro w h
        cases l with
        | nil => cases h
        | cons b l =>
          rcases List.mem_cons.mp h with rfl | h
          · exact w.1
          · exact ih w.2.2 h
    have := key _ R.walk hx
    obtain ⟨⟨x1, x2⟩, ⟨y1, y2⟩⟩ := x
    unfold sub
    simp only [ne_eq, Prod.mk.injEq] at this ⊢
    omega
  refine NxT.seq (ds1 := [some (.scr ns), some (.mr 0), a2, some (.d (.tuple (ptsD p))), some (.d (.tuple SD)), some (.d (.int o.1)), some (.d (.int o.2)), some (.d (.int (shoe (steps p)))), some (.d (ptD q)), b9, some (.d (.list XD)), some (.d (.list YD)), some (.mr G6.length), some (.d (.int k)), some (.d (ptD r)), a15, a16, a17, a18, a19, a20, a21, a22, a23, a24, a25, a26, a27]) (G1 := G7 ++ [MO.lst (ptsD [s1, (U1, U2), (u3, u4)])]) (by generalize hP : ptsD p = P at *; simp [eq, er]) ?_
  obtain ⟨g, hg, g1, g2⟩ := law_gcd_ok r.1 r.2 (by omega) (by omega) rn (G7 ++ [MO.lst (ptsD [s1, (U1, U2), (u3, u4)])])
  refine NxT.seq (ds1 := [some (.scr ns), some (.mr 0), a2, some (.d (.tuple (ptsD p))), some (.d (.tuple SD)), some (.d (.int o.1)), some (.d (.int o.2)), some (.d (.int (shoe (steps p)))), some (.d (ptD q)), b9, some (.d (.list XD)), some (.d (.list YD)), some (.mr G6.length), some (.d (.int k)), some (.d (ptD r)), some (.d (.int g)), a16, a17, a18, a19, a20, a21, a22, a23, a24, a25, a26, a27]) (G1 := G7 ++ [MO.lst (ptsD [s1, (U1, U2), (u3, u4)])]) (by simp at hg; simp [hg]) ?_
  obtain ⟨st, G8, f7, st0, st1, B8⟩ := take_app B7 [MO.lst (ptsD [s1, (U1, U2), (u3, u4)])] (g + 2) (by omega) (by omega) (by omega)
  refine NxT.seq (ds1 := [some (.scr ns), some (.mr 0), a2, some (.d (.tuple (ptsD p))), some (.d (.tuple SD)), some (.d (.int o.1)), some (.d (.int o.2)), some (.d (.int (shoe (steps p)))), some (.d (ptD q)), b9, some (.d (.list XD)), some (.d (.list YD)), some (.mr G6.length), some (.d (.int k)), some (.d (ptD r)), some (.d (.int g)), some (.d (.int st)), a17, a18, a19, a20, a21, a22, a23, a24, a25, a26, a27]) (G1 := G8 ++ [MO.lst (ptsD [s1, (U1, U2), (u3, u4)])]) (by simp at f7; simp [f7]) ?_
  have len8 : G8.length = G6.length := by rw [B8.len, B6.len]
  have d1 : ∀ G, fdivF (.d (.int r.1)) (.d (.int g)) G = _ := fun G => fdivF_int r.1 g G (by omega) (by omega)
  have d2 : ∀ G, fdivF (.d (.int r.2)) (.d (.int g)) G = _ := fun G => fdivF_int r.2 g G (by omega) (by omega)
  have fdb : ∀ i : Int, i.natAbs ≤ 60 → (i.fdiv g).natAbs ≤ 61 := fun i hi => by
    have h1 := Int.fmod_add_mul_fdiv i g
    have h2 := fmod_range (a := i) (m := g) (by omega)
    have h3 : (i.fdiv g) * g = g * i.fdiv g := Int.mul_comm ..
    by_cases c : (i.fdiv g).natAbs ≤ 61
    · exact c
    · exfalso
      by_cases c2 : 0 ≤ i.fdiv g
      · have := Int.mul_le_mul_of_nonneg_left (show (62 : Int) ≤ i.fdiv g by omega) (show 0 ≤ g by omega)
        omega
      · have := Int.mul_le_mul_of_nonneg_left (show i.fdiv g ≤ -62 by omega) (show 0 ≤ g by omega)
        omega
  have v1 := fdb r.1 nr.1
  have v2 := fdb r.2 nr.2
  generalize r.1.fdiv g = w1 at *
  generalize r.2.fdiv g = w2 at *
  have d3 : ∀ G, mulF (.d (.int st)) (.d (.int w1)) G = _ := fun G => mulF_int st w1 G (by omega) (by omega)
  have d4 : ∀ G, mulF (.d (.int st)) (.d (.int w2)) G = _ := fun G => mulF_int st w2 G (by omega) (by omega)
  have b1 : (st * w1).natAbs ≤ 1002 * 61 := by
    rw [Int.natAbs_mul]
    exact Nat.mul_le_mul (by omega) v1
  have b2 : (st * w2).natAbs ≤ 1002 * 61 := by
    rw [Int.natAbs_mul]
    exact Nat.mul_le_mul (by omega) v2
  obtain ⟨V1, hV1⟩ : ∃ V, V = q.1 + st * w1 := ⟨_, rfl⟩
  obtain ⟨V2, hV2⟩ : ∃ V, V = q.2 + st * w2 := ⟨_, rfl⟩
  have hG8 : (G8 ++ [MO.lst (ptsD [s1, (U1, U2), (u3, u4)])])[G6.length]? = some (.lst (ptsD [s1, (U1, U2), (u3, u4)])) := by rw [← len8]; simp
  have setA : (G8 ++ [MO.lst (ptsD [s1, (U1, U2), (u3, u4)])]).set G6.length (.lst (ptsD [s1, (U1, U2), (u3, u4)] ++ [ptD (V1, V2)])) = G8 ++ [MO.lst (ptsD [s1, (U1, U2), (u3, u4), (V1, V2)])] := by rw [← len8]; simp
  refine NxT.seq (ds1 := [some (.scr ns), some (.mr 0), a2, some (.d (.tuple (ptsD p))), some (.d (.tuple SD)), some (.d (.int o.1)), some (.d (.int o.2)), some (.d (.int (shoe (steps p)))), some (.d (ptD q)), b9, some (.d (.list XD)), some (.d (.list YD)), some (.mr G6.length), some (.d (.int k)), some (.d (ptD r)), some (.d (.int g)), some (.d (.int st)), a17, a18, a19, a20, a21, a22, a23, a24, a25, a26, a27]) (G1 := G8 ++ [MO.lst (ptsD [s1, (U1, U2), (u3, u4), (V1, V2)])]) (by
    have hA := fun x => appendF_mr G6.length x (ptsD [s1, (U1, U2), (u3, u4)]) _ hG8 (by rw [len_pts]; exact (by decide : 3 < sizeLine))
    have hL := isL_mr G6.length (G8 ++ [MO.lst (ptsD [s1, (U1, U2), (u3, u4)])]) _ hG8
    rw [← setA]
    generalize G8 ++ [MO.lst (ptsD [s1, (U1, U2), (u3, u4)])] = GG at *
    generalize ptsD [s1, (U1, U2), (u3, u4)] = PP at *
    simp [d1, d2, d3, d4, hL, hA, ← hV1, ← hV2]) ?_
  -- within
  have hG9 : (G8 ++ [MO.lst (ptsD [s1, (U1, U2), (u3, u4), (V1, V2)])])[G6.length]? = some (.lst (ptsD [s1, (U1, U2), (u3, u4), (V1, V2)])) := by rw [← len8]; simp
  obtain ⟨b17, b18, k6⟩ := spot_loop ad hp (some (.scr ns)) (some (.mr 0)) a2 (some (.d (.tuple SD))) (some (.d (.int o.1))) (some (.d (.int o.2))) (some (.d (.int (shoe (steps p))))) (some (.d (ptD q))) (b9) (some (.d (.list XD))) (some (.d (.list YD))) (some (.mr G6.length)) (some (.d (.int k))) (some (.d (ptD r))) (some (.d (.int g))) (some (.d (.int st))) a19 a20 a21 a22 a23 a24 a25 a26 a27 (.ref G6.length (ptsD [s1, (U1, U2), (u3, u4), (V1, V2)])) (G8 ++ [MO.lst (ptsD [s1, (U1, U2), (u3, u4), (V1, V2)])]) (show Src.ok _ _ from hG9) [s1, (U1, U2), (u3, u4), (V1, V2)] a17 a18 (by
    have := hp.small s1 hs1'
    intro x hx
    unfold Sm
    simp only [List.mem_cons, List.not_mem_nil, or_false] at hx
    rcases hx with rfl | rfl | rfl | rfl <;> constructor <;> (try simp only) <;> omega)
  refine NxT.seq (ds1 := [some (.scr ns), some (.mr 0), a2, some (.d (.tuple (ptsD p))), some (.d (.tuple SD)), some (.d (.int o.1)), some (.d (.int o.2)), some (.d (.int (shoe (steps p)))), some (.d (ptD q)), b9, some (.d (.list XD)), some (.d (.list YD)), some (.mr G6.length), some (.d (.int k)), some (.d (ptD r)), some (.d (.int g)), some (.d (.int st)), b17, b18, a19, a20, a21, a22, a23, a24, a25, a26, a27]) (G1 := G8 ++ [MO.lst (ptsD [s1, (U1, U2), (u3, u4), (V1, V2)])]) (by
    have hI : iterE seqI (varE 12) [some (.scr ns), some (.mr 0), a2, some (.d (.tuple (ptsD p))), some (.d (.tuple SD)), some (.d (.int o.1)), some (.d (.int o.2)), some (.d (.int (shoe (steps p)))), some (.d (ptD q)), b9, some (.d (.list XD)), some (.d (.list YD)), some (.mr G6.length), some (.d (.int k)), some (.d (ptD r)), some (.d (.int g)), some (.d (.int st)), a17, a18, a19, a20, a21, a22, a23, a24, a25, a26, a27] (G8 ++ [MO.lst (ptsD [s1, (U1, U2), (u3, u4), (V1, V2)])]) = .ok (ptsD [s1, (U1, U2), (u3, u4), (V1, V2)], .ref G6.length (ptsD [s1, (U1, U2), (u3, u4), (V1, V2)])) (G8 ++ [MO.lst (ptsD [s1, (U1, U2), (u3, u4), (V1, V2)])]) := by
      have hs : seqI (.mr G6.length) (G8 ++ [MO.lst (ptsD [s1, (U1, U2), (u3, u4), (V1, V2)])]) = some ((ptsD [s1, (U1, U2), (u3, u4), (V1, V2)], .ref G6.length (ptsD [s1, (U1, U2), (u3, u4), (V1, V2)])), G8 ++ [MO.lst (ptsD [s1, (U1, U2), (u3, u4), (V1, V2)])]) := by
        show (match (G8 ++ [MO.lst (ptsD [s1, (U1, U2), (u3, u4), (V1, V2)])])[G6.length]? with | some (.lst xs) => some ((xs, Src.ref G6.length xs), G8 ++ [MO.lst (ptsD [s1, (U1, U2), (u3, u4), (V1, V2)])]) | _ => none) = _
        rw [hG9]
      generalize G8 ++ [MO.lst (ptsD [s1, (U1, U2), (u3, u4), (V1, V2)])] = GG at *
      generalize ptsD [s1, (U1, U2), (u3, u4), (V1, V2)] = PP at *
      simp [hs]
    rw [forS_ap, hI, eS_ok, forK_ap]
    exact k6) ?_
  -- a way
  generalize hA9 : [MO.lst (ptsD [s1, (U1, U2), (u3, u4), (V1, V2)])] = A9 at *
  obtain ⟨x1, G9, f8, x10, x11, B9⟩ := take_app B8 A9 15 (by decide) (by decide) (by omega)
  obtain ⟨x2, G10, f9, x20, x21, B10⟩ := take_app B9 A9 15 (by decide) (by decide) (by omega)
  obtain ⟨way, hw⟩ : ∃ w : Pt, w = (x1 - 7, x2 - 7) := ⟨_, rfl⟩
  have sw : Sm way := by rw [hw]; unfold Sm; simp only; omega
  refine NxT.seq (ds1 := [some (.scr ns), some (.mr 0), a2, some (.d (.tuple (ptsD p))), some (.d (.tuple SD)), some (.d (.int o.1)), some (.d (.int o.2)), some (.d (.int (shoe (steps p)))), some (.d (ptD q)), b9, some (.d (.list XD)), some (.d (.list YD)), some (.mr G6.length), some (.d (.int k)), some (.d (ptD r)), some (.d (.int g)), some (.d (.int st)), b17, b18, some (.d (ptD way)), a20, a21, a22, a23, a24, a25, a26, a27]) (G1 := G10 ++ A9) (by rw [hw]; simp [f8, f9]) ?_
  obtain ⟨DD, hDD⟩ : ∃ DD, DD = (p.map (dotC way)).map PyData.int := ⟨_, rfl⟩
  obtain ⟨CD, hCD⟩ : ∃ CD, CD = (p.map (cross way)).map PyData.int := ⟨_, rfl⟩
  have e8 : ∀ G, compN (nameT 25) yesB (b_law_e5 F__law_bag F__law_part F__law_cross F__law_alike F_frame_of F_double_area F_sides_of F__law_take F__law_some F__law_gcd F__law_hull F_is_within F_first_on_left F_far_along (F_shifted ad)) .pure [some (.scr ns), some (.mr 0), a2, some (.d (.tuple (ptsD p))), some (.d (.tuple SD)), some (.d (.int o.1)), some (.d (.int o.2)), some (.d (.int (shoe (steps p)))), some (.d (ptD q)), b9, some (.d (.list XD)), some (.d (.list YD)), some (.mr G6.length), some (.d (.int k)), some (.d (ptD r)), some (.d (.int g)), some (.d (.int st)), b17, b18, some (.d (ptD way)), a20, a21, a22, a23, a24, none, a26, a27] (ptsD p) [] G = .ok DD G := fun G => by
    rw [hDD, ← ints_map]
    exact compN_of (nameT 25) _ _ ptD (fun q => .int (dotC way q)) p [] G (by simp; omega) fun q hq H => ⟨_, rfl, by
      have s1 := hp.sm q hq
      unfold Sm at s1 sw
      have m1 : ∀ G, mulF (.d (.int way.1)) (.d (.int q.1)) G = _ := fun G => mulF_int _ _ G (by omega) (by omega)
      have m2 : ∀ G, mulF (.d (.int way.2)) (.d (.int q.2)) G = _ := fun G => mulF_int _ _ G (by omega) (by omega)
      simp [b_law_e5, m1, m2, dotC]⟩
  refine NxT.seq (ds1 := [some (.scr ns), some (.mr 0), a2, some (.d (.tuple (ptsD p))), some (.d (.tuple SD)), some (.d (.int o.1)), some (.d (.int o.2)), some (.d (.int (shoe (steps p)))), some (.d (ptD q)), b9, some (.d (.list XD)), some (.d (.list YD)), some (.mr G6.length), some (.d (.int k)), some (.d (ptD r)), some (.d (.int g)), some (.d (.int st)), b17, b18, some (.d (ptD way)), some (.d (.list DD)), a21, a22, a23, a24, a25, a26, a27]) (G1 := G10 ++ A9) (by
    generalize hP : ptsD p = P at *
    simp [e8, wipeD]) ?_
  have e9 : ∀ G, compN (nameT 25) yesB (b_law_e6 F__law_bag F__law_part F__law_cross F__law_alike F_frame_of F_double_area F_sides_of F__law_take F__law_some F__law_gcd F__law_hull F_is_within F_first_on_left F_far_along (F_shifted ad)) .pure [some (.scr ns), some (.mr 0), a2, some (.d (.tuple (ptsD p))), some (.d (.tuple SD)), some (.d (.int o.1)), some (.d (.int o.2)), some (.d (.int (shoe (steps p)))), some (.d (ptD q)), b9, some (.d (.list XD)), some (.d (.list YD)), some (.mr G6.length), some (.d (.int k)), some (.d (ptD r)), some (.d (.int g)), some (.d (.int st)), b17, b18, some (.d (ptD way)), some (.d (.list DD)), a21, a22, a23, a24, none, a26, a27] (ptsD p) [] G = .ok CD G := fun G => by
    rw [hCD, ← ints_map]
    exact compN_of (nameT 25) _ _ ptD (fun q => .int (cross way q)) p [] G (by simp; omega) fun q hq H => ⟨_, rfl, by
      have s1 := hp.sm q hq
      unfold Sm at s1
      have sw' := sw
      unfold Sm at sw'
      have m1 : ∀ G, F__law_cross [.d (ptD way), .d (ptD q)] G = _ := fun G => law_cross_eq way q G (by omega) (by omega) (by omega) (by omega)
      simp [b_law_e6, m1]⟩
  refine NxT.seq (ds1 := [some (.scr ns), some (.mr 0), a2, some (.d (.tuple (ptsD p))), some (.d (.tuple SD)), some (.d (.int o.1)), some (.d (.int o.2)), some (.d (.int (shoe (steps p)))), some (.d (ptD q)), b9, some (.d (.list XD)), some (.d (.list YD)), some (.mr G6.length), some (.d (.int k)), some (.d (ptD r)), some (.d (.int g)), some (.d (.int st)), b17, b18, some (.d (ptD way)), some (.d (.list DD)), some (.d (.list CD)), a22, a23, a24, a25, a26, a27]) (G1 := G10 ++ A9) (by
    generalize hP : ptsD p = P at *
    simp [e9, wipeD]) ?_
  -- far_along, first_on_left
  have r1 : ∀ G, F_far_along [.d (.tuple (ptsD p)), .d (ptD way)] G = _ := fun G => far_along_eq p way (by omega) (by omega) hp.sm sw G
  obtain ⟨fq, hfq, r2, _⟩ := first_on_left_eq p way (by omega) (by omega) hp.sm sw []
  have r3 : ∀ G, F_first_on_left [.d (.tuple (ptsD p)), .d (ptD way)] G = .ok (.d (ptD fq)) G := fun G => by
    obtain ⟨fq2, _, k1, k2⟩ := first_on_left_eq p way (by omega) (by omega) hp.sm sw G
    rw [r2] at k1
    rw [← Option.some.inj k1] at k2
    exact k2
  have m5 : ∀ G, minF [.d (.list DD)] G = some (.d (.int (lo (p.map (dotC way)))), G) := by rw [hDD]; exact minF_ints _ (by rw [List.length_map]; omega)
  have m6 : ∀ G, maxF [.d (.list DD)] G = some (.d (.int (hi (p.map (dotC way)))), G) := by rw [hDD]; exact maxF_ints _ (by rw [List.length_map]; omega)
  have m7 : ∀ G, maxF [.d (.list CD)] G = some (.d (.int (hi (p.map (cross way)))), G) := by rw [hCD]; exact maxF_ints _ (by rw [List.length_map]; omega)
  have m8 : ∀ G, indexF (.d (.list CD)) [.d (.int (hi (p.map (cross way))))] G = some (.d (.int ((p.map (cross way)).idxOf (hi (p.map (cross way))) : Nat)), G) := fun G => by
    rw [hCD]
    unfold indexF
    simp only [intsD_map]
    rw [if_pos (hi_mem (by rw [List.length_map]; omega))]
  have bd : ∀ i ∈ p.map (dotC way), i.natAbs ≤ 1000000000 := fun i hi => by
    obtain ⟨q, hq, rfl⟩ := List.mem_map.mp hi
    have h1 := hp.small q hq
    have h2 : way.1.natAbs ≤ 7 ∧ way.2.natAbs ≤ 7 := by rw [hw]; simp only; omega
    have k1 := Int.natAbs_mul way.1 q.1
    have k2 := Int.natAbs_mul way.2 q.2
    have k3 : way.1.natAbs * q.1.natAbs ≤ 7 * 30 := Nat.mul_le_mul h2.1 h1.1
    have k4 : way.2.natAbs * q.2.natAbs ≤ 7 * 30 := Nat.mul_le_mul h2.2 h1.2
    unfold dotC
    generalize way.1 * q.1 = X at *
    generalize way.2 * q.2 = Y at *
    omega
  have n5 := bd _ (lo_mem (l := p.map (dotC way)) (by rw [List.length_map]; omega))
  have n6 := bd _ (hi_mem (l := p.map (dotC way)) (by rw [List.length_map]; omega))
  have nf := hp.small fq hfq
  have r4 : ∀ G, F__law_alike [.d (.list [.tuple [.int (lo (p.map (dotC way))), .int (hi (p.map (dotC way)))], ptD fq]), .d (.list [.tuple [.int (lo (p.map (dotC way))), .int (hi (p.map (dotC way)))], ptD fq])] G = _ := fun G => law_alike_eq _ ((fit_list (d := 1) (w := 2) (n := 2) (fa_cons (fit_tup (d := 0) (w := 0) (n := 2) (fa_cons (fit_int (by omega)) (fa_cons (fit_int (by omega)) fa_nil)) (Nat.le_refl _)) (fa_cons (fit_pt (w := 0) (by omega) (by omega)) fa_nil)) (Nat.le_refl _)).mono (by decide) (by decide)) G
  refine NxT.seq (ds1 := [some (.scr ns), some (.mr 0), a2, some (.d (.tuple (ptsD p))), some (.d (.tuple SD)), some (.d (.int o.1)), some (.d (.int o.2)), some (.d (.int (shoe (steps p)))), some (.d (ptD q)), b9, some (.d (.list XD)), some (.d (.list YD)), some (.mr G6.length), some (.d (.int k)), some (.d (ptD r)), some (.d (.int g)), some (.d (.int st)), b17, b18, some (.d (ptD way)), some (.d (.list DD)), some (.d (.list CD)), a22, a23, a24, a25, a26, a27]) (G1 := G10 ++ A9) (by
    generalize ((p.map (cross way)).idxOf (hi (p.map (cross way)))) = IX at *
    generalize hX : p.map (dotC way) = X at *
    generalize hY : p.map (cross way) = Y at *
    generalize hP : ptsD p = P at *
    simp [r1, r3, r4, m5, m6, m7, m8, r2, isL]) ?_
  -- a shift
  obtain ⟨y1, G11, f10, y10, y11, B11⟩ := take_app B10 A9 61 (by decide) (by decide) (by omega)
  obtain ⟨y2, G12, f11, y20, y21, B12⟩ := take_app B11 A9 61 (by decide) (by decide) (by omega)
  obtain ⟨Y1, hY1⟩ : ∃ V, V = y1 - 30 := ⟨_, rfl⟩
  obtain ⟨Y2, hY2⟩ : ∃ V, V = y2 - 30 := ⟨_, rfl⟩
  obtain ⟨z0, G13, f12, hz0, B13⟩ := some_app B12 A9 [.int 0, .int 1, .int 95, .int (-95), .int Y2] (by simp) (by simp) (by omega)
  obtain ⟨Z, rfl, hZ⟩ : ∃ Z : Int, z0 = .int Z ∧ Z.natAbs ≤ 95 := by
    simp only [List.mem_cons, List.not_mem_nil, or_false] at hz0
    rcases hz0 with rfl | rfl | rfl | rfl | rfl
    · exact ⟨_, rfl, by decide⟩
    · exact ⟨_, rfl, by decide⟩
    · exact ⟨_, rfl, by decide⟩
    · exact ⟨_, rfl, by decide⟩
    · exact ⟨_, rfl, by omega⟩
  refine NxT.seq (ds1 := [some (.scr ns), some (.mr 0), a2, some (.d (.tuple (ptsD p))), some (.d (.tuple SD)), some (.d (.int o.1)), some (.d (.int o.2)), some (.d (.int (shoe (steps p)))), some (.d (ptD q)), b9, some (.d (.list XD)), some (.d (.list YD)), some (.mr G6.length), some (.d (.int k)), some (.d (ptD r)), some (.d (.int g)), some (.d (.int st)), b17, b18, some (.d (ptD way)), some (.d (.list DD)), some (.d (.list CD)), some (.d (ptD (Y1, Z))), a23, a24, a25, a26, a27]) (G1 := G13 ++ A9) (by simp [f10, f11, f12, ← hY1, ← hY2]) ?_
  have e10 : ∀ G, compN (tupT 2 (consT (nameT 26) (consT (nameT 27) nilT))) yesB (b_law_e7 F__law_bag F__law_part F__law_cross F__law_alike F_frame_of F_double_area F_sides_of F__law_take F__law_some F__law_gcd F__law_hull F_is_within F_first_on_left F_far_along (F_shifted ad)) .pure [some (.scr ns), some (.mr 0), a2, some (.d (.tuple (ptsD p))), some (.d (.tuple SD)), some (.d (.int o.1)), some (.d (.int o.2)), some (.d (.int (shoe (steps p)))), some (.d (ptD q)), b9, some (.d (.list XD)), some (.d (.list YD)), some (.mr G6.length), some (.d (.int k)), some (.d (ptD r)), some (.d (.int g)), some (.d (.int st)), b17, b18, some (.d (ptD way)), some (.d (.list DD)), some (.d (.list CD)), some (.d (ptD (Y1, Z))), a23, a24, a25, none, none] (ptsD p) [] G = .ok (ptsD (p.map (mv (Y1, Z)))) G := fun G => by
    have k := compN_of (tupT 2 (consT (nameT 26) (consT (nameT 27) nilT))) (b_law_e7 F__law_bag F__law_part F__law_cross F__law_alike F_frame_of F_double_area F_sides_of F__law_take F__law_some F__law_gcd F__law_hull F_is_within F_first_on_left F_far_along (F_shifted ad)) [some (.scr ns), some (.mr 0), a2, some (.d (.tuple (ptsD p))), some (.d (.tuple SD)), some (.d (.int o.1)), some (.d (.int o.2)), some (.d (.int (shoe (steps p)))), some (.d (ptD q)), b9, some (.d (.list XD)), some (.d (.list YD)), some (.mr G6.length), some (.d (.int k)), some (.d (ptD r)), some (.d (.int g)), some (.d (.int st)), b17, b18, some (.d (ptD way)), some (.d (.list DD)), some (.d (.list CD)), some (.d (ptD (Y1, Z))), a23, a24, a25, none, none] ptD (fun q => ptD (mv (Y1, Z) q)) p [] G (by simp; omega) fun q _ H => ⟨_, rfl, by simp [b_law_e7, mv]⟩
    have em : List.map (fun q => ptD (mv (Y1, Z) q)) p = ptsD (p.map (mv (Y1, Z))) := by
      show _ = List.map ptD _
      rw [List.map_map]
      rfl
    rw [em] at k
    exact k
  refine NxT.seq (ds1 := [some (.scr ns), some (.mr 0), a2, some (.d (.tuple (ptsD p))), some (.d (.tuple SD)), some (.d (.int o.1)), some (.d (.int o.2)), some (.d (.int (shoe (steps p)))), some (.d (ptD q)), b9, some (.d (.list XD)), some (.d (.list YD)), some (.mr G6.length), some (.d (.int k)), some (.d (ptD r)), some (.d (.int g)), some (.d (.int st)), b17, b18, some (.d (ptD way)), some (.d (.list DD)), some (.d (.list CD)), some (.d (ptD (Y1, Z))), some (.d (.tuple (ptsD (p.map (mv (Y1, Z)))))), a24, a25, a26, a27]) (G1 := G13 ++ A9) (by
    generalize ptsD (p.map (mv (Y1, Z))) = MD at *
    generalize hP : ptsD p = P at *
    simp [e10, wipeD]) ?_
  -- what is far
  have t1 : ∀ G, F_shifted ad [.d (.tuple (ptsD p)), .d (ptD (Y1, Z))] G = _ := fun G => shifted_eq ad p (Y1, Z) (by omega) G
  have hm := hull_mv (Y1, Z) hp.hull
  have am := shoe_mv (Y1, Z) (c := p) (by omega)
  have sm := sides_mv (Y1, Z) p
  have lm : (p.map (mv (Y1, Z))).length = p.length := List.length_map ..
  have bm : ∀ q ∈ p.map (mv (Y1, Z)), q.1.natAbs ≤ 200 ∧ q.2.natAbs ≤ 200 := fun q hq => by
    obtain ⟨x, hx, rfl⟩ := List.mem_map.mp hq
    have := hp.small x hx
    unfold mv
    simp only
    omega
  generalize hM : p.map (mv (Y1, Z)) = M at *
  have smM : ∀ q ∈ M, Sm q := fun q hq => by
    have := bm q hq
    unfold Sm
    omega
  have t2 : ∀ G, F_double_area [.d (.tuple (ptsD M))] G = .ok (.d (.int (shoe (steps p)))) G := fun G => by rw [double_area_eq M (by omega) (by omega) smM, am]
  have t3 : ∀ G, F_sides_of [.d (.tuple (ptsD M))] G = .ok (.d (.tuple SD)) G := fun G => by rw [hSD, sides_of_eq M (by omega) (by omega), sm]
  obtain ⟨fr, fe⟩ := fars_eq M 0
  have hco : ∀ G, compN (tupT 2 (consT (nameT 13) (consT (tupT 2 (consT (nameT 26) (consT (nameT 27) nilT))) nilT))) (b_law_c9 F__law_bag F__law_part F__law_cross F__law_alike F_frame_of F_double_area F_sides_of F__law_take F__law_some F__law_gcd F__law_hull F_is_within F_first_on_left F_far_along (F_shifted ad)) (b_law_e8 F__law_bag F__law_part F__law_cross F__law_alike F_frame_of F_double_area F_sides_of F__law_take F__law_some F__law_gcd F__law_hull F_is_within F_first_on_left F_far_along (F_shifted ad)) .pure [some (.scr ns), some (.mr 0), a2, some (.d (.tuple (ptsD p))), some (.d (.tuple SD)), some (.d (.int o.1)), some (.d (.int o.2)), some (.d (.int (shoe (steps p)))), some (.d (ptD q)), b9, some (.d (.list XD)), some (.d (.list YD)), some (.mr G6.length), none, some (.d (ptD r)), some (.d (.int g)), some (.d (.int st)), b17, b18, some (.d (ptD way)), some (.d (.list DD)), some (.d (.list CD)), some (.d (ptD (Y1, Z))), some (.d (.tuple (ptsD M))), a24, a25, none, none] (enumD (ptsD M)) [] G = .ok (((numsD 0 (ptsD M)).filter farP).map fun x => PyData.int (numI x)) G := fun G => by
    have ez : (numsD 0 (ptsD M)).length ≤ sizeLine := by rw [← enumD_nums, enumD_len, List.length_map]; omega
    rw [enumD_nums, compN_ok _ _ _ .pure _ G farP (fun x => PyData.int (numI x)) (numsD 0 (ptsD M)) [] (fun _ => True.intro) (by simpa using ez) fun x hx H => ?_]
    · rfl
    · obtain ⟨j, q, rfl, _⟩ := nums_mem hx
      refine ⟨_, rfl, ?_, fun _ => rfl⟩
      have e : farP (.tuple [.int j, ptD q]) = (decide ((99 : Int) < (q.1.natAbs : Int)) || decide ((99 : Int) < (q.2.natAbs : Int))) := by
        show isFar q = _
        unfold isFar
        rw [Bool.eq_iff_iff]
        simp
        omega
      rw [e]
      by_cases c : (99 : Int) < (q.1.natAbs : Int) <;> simp [b_law_c9, abs_nat, c]
  have hne : ∀ L G, eqF false (.d (.list (List.map PyData.int L))) (.d (.list [])) G = some (.d (.bool (decide (L = []))), G) := fun L G => by
    rw [eqF_d false _ _ G (by rw [PyData.plain]; exact plain_ints L) rfl (by simp [PyData.depth, PyData.depthAll])]
    cases L <;> simp [PyData.eqv, PyData.eqvAll]
  have hE : ∀ G, enumTI (.d (.tuple (ptsD M))) G = some ((enumD (ptsD M), .pure), G) := fun G => rfl
  have fM : Fit 3 400 (.tuple (ptsD M)) := (fit_pts (n := 8) (fun q hq => by have := bm q hq; omega) (by omega)).mono (by decide) (by decide)
  have B14 := (B13.mono (show _ ≤ c + 3000 by omega)).app A9
  have told : ∀ ds G, ds[3]? = some (some (.d (.tuple (ptsD p)))) → ds[22]? = some (some (.d (ptD (Y1, Z)))) → fnE (F_shifted ad) (consA (varE 3) (consA (varE 22) nilA)) ds G = chkR M G := fun ds G i1 i2 => by
    generalize hP : ptsD p = P at *
    simp [i1, i2, t1]
  cases hf : farK 0 M with
  | some j =>
    rw [hf] at fe
    rw [fe] at hco
    refine NxT.seq (ds1 := [some (.scr ns), some (.mr 0), a2, some (.d (.tuple (ptsD p))), some (.d (.tuple SD)), some (.d (.int o.1)), some (.d (.int o.2)), some (.d (.int (shoe (steps p)))), some (.d (ptD q)), b9, some (.d (.list XD)), some (.d (.list YD)), some (.mr G6.length), some (.d (.int k)), some (.d (ptD r)), some (.d (.int g)), some (.d (.int st)), b17, b18, some (.d (ptD way)), some (.d (.list DD)), some (.d (.list CD)), some (.d (ptD (Y1, Z))), some (.d (.tuple (ptsD M))), some (.d (.list (List.map PyData.int ((j : Int) :: fr)))), a25, a26, a27]) (G1 := G13 ++ A9) (by
      generalize hMD : ptsD M = MD at *
      generalize hP : ptsD p = P at *
      simp [hE, hco, wipeD]) ?_
    have hj := farK_lt hf
    have ck : ∀ G, chkR M G = .exn ⟨"BadPart", [("fault", .str "far"), ("number", .int (j : Nat))]⟩ G := fun G => by
      unfold chkR
      rw [if_neg (by omega), if_neg (by omega), hf]
    have t4 : toldE "told" 2 (fnE (F_shifted ad) (consA (varE 3) (consA (varE 22) nilA))) h__law_raised [some (.scr ns), some (.mr 0), a2, some (.d (.tuple (ptsD p))), some (.d (.tuple SD)), some (.d (.int o.1)), some (.d (.int o.2)), some (.d (.int (shoe (steps p)))), some (.d (ptD q)), b9, some (.d (.list XD)), some (.d (.list YD)), some (.mr G6.length), some (.d (.int k)), some (.d (ptD r)), some (.d (.int g)), some (.d (.int st)), b17, b18, some (.d (ptD way)), some (.d (.list DD)), some (.d (.list CD)), some (.d (ptD (Y1, Z))), some (.d (.tuple (ptsD M))), some (.d (.list (List.map PyData.int ((j : Int) :: fr)))), a25, a26, a27] (G13 ++ A9) = .ok (.d (.tuple [.str "part", .int (j : Nat), .str "far"])) (G13 ++ A9) := by
      rw [told_exn _ _ _ _ _ _ _ _ ((told _ _ rfl rfl).trans (ck _)), hand_part]
    have t5 : ∀ G, F__law_alike [.d (.tuple [.str "part", .int (j : Nat), .str "far"]), .d (.tuple [.str "part", .int (j : Nat), .str "far"])] G = _ := fun G => law_alike_eq _ ((fit_tup (d := 0) (w := 4) (n := 3) (fa_cons (fit_str (by decide) (by decide)) (fa_cons (fit_int (by omega)) (fa_cons (fit_str (by decide) (by decide)) fa_nil))) (Nat.le_refl _)).mono (by decide) (by decide)) G
    have h1 : ∀ G, eqF false (.d (.list (List.map PyData.int ((j : Int) :: fr)))) (.d (.list [])) G = some (.d (.bool false), G) := fun G => by rw [hne]; simp
    have h2 : atI (List.map PyData.int ((j : Int) :: fr)) 0 = some (.int (j : Int)) := atI_0 _ _
    generalize List.map PyData.int ((j : Int) :: fr) = FR at *
    refine NxT.seq (ds1 := [some (.scr ns), some (.mr 0), a2, some (.d (.tuple (ptsD p))), some (.d (.tuple SD)), some (.d (.int o.1)), some (.d (.int o.2)), some (.d (.int (shoe (steps p)))), some (.d (ptD q)), b9, some (.d (.list XD)), some (.d (.list YD)), some (.mr G6.length), some (.d (.int k)), some (.d (ptD r)), some (.d (.int g)), some (.d (.int st)), b17, b18, some (.d (ptD way)), some (.d (.list DD)), some (.d (.list CD)), some (.d (ptD (Y1, Z))), some (.d (.tuple (ptsD M))), some (.d (.list FR)), a25, a26, a27]) (G1 := G13 ++ A9) (by
      generalize hMD : ptsD M = MD at *
      generalize hP : ptsD p = P at *
      generalize G13 ++ A9 = GG at *
      try simp at t4
      simp [t4, t5, h1, h2]) ?_
    refine NxT.of (ds1 := [some (.scr ns), some (.mr 0), a2, some (.d (.tuple (ptsD p))), some (.d (.tuple SD)), some (.d (.int o.1)), some (.d (.int o.2)), some (.d (.int (shoe (steps p)))), some (.d (ptD q)), b9, some (.d (.list XD)), some (.d (.list YD)), some (.mr G6.length), some (.d (.int k)), some (.d (ptD r)), some (.d (.int g)), some (.d (.int st)), b17, b18, some (.d (ptD way)), some (.d (.list DD)), some (.d (.list CD)), some (.d (ptD (Y1, Z))), some (.d (.tuple (ptsD M))), some (.d (.list FR)), a25, a26, a27]) (G1 := G13 ++ A9) (by simp [h1]) ⟨_, _, rfl, rfl, B14⟩
  | none =>
    rw [hf] at fe
    rw [fe] at hco
    refine NxT.seq (ds1 := [some (.scr ns), some (.mr 0), a2, some (.d (.tuple (ptsD p))), some (.d (.tuple SD)), some (.d (.int o.1)), some (.d (.int o.2)), some (.d (.int (shoe (steps p)))), some (.d (ptD q)), b9, some (.d (.list XD)), some (.d (.list YD)), some (.mr G6.length), some (.d (.int k)), some (.d (ptD r)), some (.d (.int g)), some (.d (.int st)), b17, b18, some (.d (ptD way)), some (.d (.list DD)), some (.d (.list CD)), some (.d (ptD (Y1, Z))), some (.d (.tuple (ptsD M))), some (.d (.list [])), a25, a26, a27]) (G1 := G13 ++ A9) (by
      generalize hMD : ptsD M = MD at *
      generalize hP : ptsD p = P at *
      simp [hE, hco, wipeD]) ?_
    have ck : ∀ G, chkR M G = .ok (.d (.tuple (ptsD M))) G := fun G => by
      unfold chkR
      rw [if_neg (by omega), if_neg (by omega), hf]
      simp only
      rw [if_pos hm]
    have t4 : toldE "told" 2 (fnE (F_shifted ad) (consA (varE 3) (consA (varE 22) nilA))) h__law_raised [some (.scr ns), some (.mr 0), a2, some (.d (.tuple (ptsD p))), some (.d (.tuple SD)), some (.d (.int o.1)), some (.d (.int o.2)), some (.d (.int (shoe (steps p)))), some (.d (ptD q)), b9, some (.d (.list XD)), some (.d (.list YD)), some (.mr G6.length), some (.d (.int k)), some (.d (ptD r)), some (.d (.int g)), some (.d (.int st)), b17, b18, some (.d (ptD way)), some (.d (.list DD)), some (.d (.list CD)), some (.d (ptD (Y1, Z))), some (.d (.tuple (ptsD M))), some (.d (.list [])), a25, a26, a27] (G13 ++ A9) = .ok (.d (.tuple [.str "told", .tuple (ptsD M)])) (G13 ++ A9) := told_ok _ _ _ _ _ _ _ _ ((told _ _ rfl rfl).trans (ck _))
    have t5 : ∀ G, F__law_alike [.d (.tuple [.str "told", .tuple (ptsD M)]), .d (.tuple [.str "told", .tuple (ptsD M)])] G = _ := fun G => law_alike_eq _ ((fit_tup (d := 3) (w := 400) (n := 2) (fa_cons (fit_str (by decide) (by decide)) (fa_cons fM fa_nil)) (Nat.le_refl _)).mono (by decide) (by decide)) G
    have h1 : ∀ G, eqF false (.d (.list [])) (.d (.list [])) G = some (.d (.bool true), G) := fun G => by
      have := hne [] G
      simpa using this
    have h3 : ∀ G, eqF true (.d (.tuple SD)) (.d (.tuple SD)) G = some (.d (.bool false), G) := fun G => by
      rw [hSD, eqF_pts]
      simp
    refine NxT.seq (ds1 := [some (.scr ns), some (.mr 0), a2, some (.d (.tuple (ptsD p))), some (.d (.tuple SD)), some (.d (.int o.1)), some (.d (.int o.2)), some (.d (.int (shoe (steps p)))), some (.d (ptD q)), b9, some (.d (.list XD)), some (.d (.list YD)), some (.mr G6.length), some (.d (.int k)), some (.d (ptD r)), some (.d (.int g)), some (.d (.int st)), b17, b18, some (.d (ptD way)), some (.d (.list DD)), some (.d (.list CD)), some (.d (ptD (Y1, Z))), some (.d (.tuple (ptsD M))), some (.d (.list [])), a25, a26, a27]) (G1 := G13 ++ A9) (by
      generalize hMD : ptsD M = MD at *
      generalize hP : ptsD p = P at *
      generalize G13 ++ A9 = GG at *
      try simp at t4
      simp [t4, t5, h1]) ?_
    refine NxT.of (ds1 := [some (.scr ns), some (.mr 0), a2, some (.d (.tuple (ptsD p))), some (.d (.tuple SD)), some (.d (.int o.1)), some (.d (.int o.2)), some (.d (.int (shoe (steps p)))), some (.d (ptD q)), b9, some (.d (.list XD)), some (.d (.list YD)), some (.mr G6.length), some (.d (.int k)), some (.d (ptD r)), some (.d (.int g)), some (.d (.int st)), b17, b18, some (.d (ptD way)), some (.d (.list DD)), some (.d (.list CD)), some (.d (ptD (Y1, Z))), some (.d (.tuple (ptsD M))), some (.d (.list [])), a25, a26, a27]) (G1 := G13 ++ A9) (by
      generalize hMD : ptsD M = MD at *
      generalize hP : ptsD p = P at *
      simp [h1, t2, t3, h3]) ⟨_, _, rfl, rfl, B14⟩
end K02
namespace K02
open PySem PySem.Spec PyProof.Rows L2 LamX DL HullM
theorem laps_ok (ad : Ad) (ns : List Int) : ∀ (items : List PyData) (c : Nat) (t : Sl) (G0 G : Ms), t.length = 26 → Bag 0 c G0 G → c + 3000 * items.length ≤ 500000 →
    ∃ t' G', forN (nameT 2) (b_law_f10 F__law_bag F__law_part F__law_cross F__law_alike F_frame_of F_double_area F_sides_of F__law_take F__law_some F__law_gcd F__law_hull F_is_within F_first_on_left F_far_along (F_shifted ad)) .pure items (some (.scr ns) :: some (.mr 0) :: t) G = .nx (some (.scr ns) :: some (.mr 0) :: t') G'
  | [], c, t, G0, G, _, _, _ => ⟨t, G, forN_nilP _ _ _ _⟩
  | x :: items, c, t, G0, G, ht, h, hc => by
    rw [List.length_cons] at hc
    match t, ht with
    | [a2, a3, a4, a5, a6, a7, a8, a9, a10, a11, a12, a13, a14, a15, a16, a17, a18, a19, a20, a21, a22, a23, a24, a25, a26, a27], _ =>
      obtain ⟨ds, G1, k, t1, G2, rfl, h1, B1⟩ := lap_ok ad ns h (by omega) (some (.d x)) a3 a4 a5 a6 a7 a8 a9 a10 a11 a12 a13 a14 a15 a16 a17 a18 a19 a20 a21 a22 a23 a24 a25 a26 a27
      obtain ⟨t', G', ih⟩ := laps_ok ad ns items (c + 3000) t1 G2 G1 h1 B1 (by omega)
      refine ⟨t', G', ?_⟩
      rw [forN_consP _ _ _ _ _ _ (ds1 := [some (.scr ns), some (.mr 0), some (.d x), a3, a4, a5, a6, a7, a8, a9, a10, a11, a12, a13, a14, a15, a16, a17, a18, a19, a20, a21, a22, a23, a24, a25, a26, a27]) (G1 := G) rfl, k, turn_nx]
      exact ih
theorem law_ok (ad : Ad) (ns : List Int) : F_law ad [.scr ns] [] = .ok (.d (.bool true)) [] := by
  obtain ⟨G, e, B⟩ := law_bag_ok ns
  obtain ⟨t', G', k⟩ := laps_ok ad ns (rangeD 0 10) 0 [none, none, none, none, none, none, none, none, none, none, none, none, none, none, none, none, none, none, none, none, none, none, none, none, none, none] _ G rfl B (by rw [rangeD_len]; decide)
  have hI : ∀ ds H, iterA range1F (consA (kE (.int 10)) nilA) ds H = .ok (rangeD 0 10, .pure) H := fun ds H => iter_range1 (i := 10) 10 (by simp) (by decide) (by decide)
  unfold F_law
  rw [defW_ap]
  simp [b_law, e, hI, k]
end K02
namespace K02
open PySem PySem.Spec PyProof.Rows L2 LamX DL
theorem law_at {l : PySem.W.OpenLaw} {w : World} {K : PySem.W.Frag} {h : Heap} {mg : Str → Option Value} {fa : Addr} {ad : Ad} {u_MOST_CORNERS : Tok} {u_MOST_FAR : Tok} {oc_is_number kV_is_number dc_is_number pm_is_number cd_is_number ct_is_number : Value} {od_is_number an_is_number : Option Addr} {sl_is_number : Array (Option Value)} {oc_is_sized kV_is_sized dc_is_sized pm_is_sized cd_is_sized ct_is_sized : Value} {od_is_sized an_is_sized : Option Addr} {sl_is_sized : Array (Option Value)} {oc_is_couple kV_is_couple dc_is_couple pm_is_couple cd_is_couple ct_is_couple : Value} {od_is_couple an_is_couple : Option Addr} {sl_is_couple : Array (Option Value)} {oc_is_tuple_of kV_is_tuple_of dc_is_tuple_of pm_is_tuple_of cd_is_tuple_of ct_is_tuple_of : Value} {od_is_tuple_of an_is_tuple_of : Option Addr} {sl_is_tuple_of : Array (Option Value)} {oc_is_corners kV_is_corners dc_is_corners pm_is_corners cd_is_corners ct_is_corners : Value} {od_is_corners an_is_corners : Option Addr} {sl_is_corners : Array (Option Value)} {oc_turn_of kV_turn_of dc_turn_of pm_turn_of cd_turn_of ct_turn_of : Value} {od_turn_of an_turn_of : Option Addr} {sl_turn_of : Array (Option Value)} {oc_chain kV_chain dc_chain pm_chain cd_chain ct_chain : Value} {od_chain an_chain : Option Addr} {sl_chain : Array (Option Value)} {oc_hull_of kV_hull_of dc_hull_of pm_hull_of cd_hull_of ct_hull_of : Value} {od_hull_of an_hull_of : Option Addr} {sl_hull_of : Array (Option Value)} {oc_is_hull kV_is_hull dc_is_hull pm_is_hull cd_is_hull ct_is_hull : Value} {od_is_hull an_is_hull : Option Addr} {sl_is_hull : Array (Option Value)} {oc_checked_part kV_checked_part dc_checked_part pm_checked_part cd_checked_part ct_checked_part : Value} {od_checked_part an_checked_part : Option Addr} {sl_checked_part : Array (Option Value)} {oc_sides_of kV_sides_of dc_sides_of pm_sides_of cd_sides_of ct_sides_of : Value} {od_sides_of an_sides_of : Option Addr} {sl_sides_of : Array (Option Value)} {oc_double_area kV_double_area dc_double_area pm_double_area cd_double_area ct_double_area : Value} {od_double_area an_double_area : Option Addr} {sl_double_area : Array (Option Value)} {oc_is_within kV_is_within dc_is_within pm_is_within cd_is_within ct_is_within : Value} {od_is_within an_is_within : Option Addr} {sl_is_within : Array (Option Value)} {oc_shifted kV_shifted dc_shifted pm_shifted cd_shifted ct_shifted : Value} {od_shifted an_shifted : Option Addr} {sl_shifted : Array (Option Value)} {oc_frame_of kV_frame_of dc_frame_of pm_frame_of cd_frame_of ct_frame_of : Value} {od_frame_of an_frame_of : Option Addr} {sl_frame_of : Array (Option Value)} {oc_first_on_left kV_first_on_left dc_first_on_left pm_first_on_left cd_first_on_left ct_first_on_left : Value} {od_first_on_left an_first_on_left : Option Addr} {sl_first_on_left : Array (Option Value)} {oc_far_along kV_far_along dc_far_along pm_far_along cd_far_along ct_far_along : Value} {od_far_along an_far_along : Option Addr} {sl_far_along : Array (Option Value)} {oc__law_bag kV__law_bag dc__law_bag pm__law_bag cd__law_bag ct__law_bag : Value} {od__law_bag an__law_bag : Option Addr} {sl__law_bag : Array (Option Value)} {oc__law_take kV__law_take dc__law_take pm__law_take cd__law_take ct__law_take : Value} {od__law_take an__law_take : Option Addr} {sl__law_take : Array (Option Value)} {oc__law_some kV__law_some dc__law_some pm__law_some cd__law_some ct__law_some : Value} {od__law_some an__law_some : Option Addr} {sl__law_some : Array (Option Value)} {oc__law_alike kV__law_alike dc__law_alike pm__law_alike cd__law_alike ct__law_alike : Value} {od__law_alike an__law_alike : Option Addr} {sl__law_alike : Array (Option Value)} {oc__law_gcd kV__law_gcd dc__law_gcd pm__law_gcd cd__law_gcd ct__law_gcd : Value} {od__law_gcd an__law_gcd : Option Addr} {sl__law_gcd : Array (Option Value)} {oc__law_cross kV__law_cross dc__law_cross pm__law_cross cd__law_cross ct__law_cross : Value} {od__law_cross an__law_cross : Option Addr} {sl__law_cross : Array (Option Value)} {oc__law_hull kV__law_hull dc__law_hull pm__law_hull cd__law_hull ct__law_hull : Value} {od__law_hull an__law_hull : Option Addr} {sl__law_hull : Array (Option Value)} {oc__law_part kV__law_part dc__law_part pm__law_part cd__law_part ct__law_part : Value} {od__law_part an__law_part : Option Addr} {sl__law_part : Array (Option Value)} {oc_law kV_law dc_law pm_law ct_law : Value} {od_law an_law : Option Addr} {sl_law : Array (Option Value)} {oc__law_raised kV__law_raised dc__law_raised pm__law_raised cd__law_raised ct__law_raised : Value} {od__law_raised an__law_raised : Option Addr} {sl__law_raised : Array (Option Value)} {xa_TooLarge : Addr}
    (X : K.In h) (G : h.Ns mainGlobals mg) (hfa : mg "law" = some (.ref fa))
    (g_Nothing : PySem.W.nsIn K mainGlobals "Nothing" = some (some (.ref ad.Nothing)))
    (g_BadPart : PySem.W.nsIn K mainGlobals "BadPart" = some (some (.ref ad.BadPart)))
    (g_TooLarge : PySem.W.nsIn K mainGlobals "TooLarge" = some (some (.ref xa_TooLarge)))
    (z_abs : PySem.W.nsIn K mainGlobals "abs" = some none)
    (z_all : PySem.W.nsIn K mainGlobals "all" = some none)
    (z_bool : PySem.W.nsIn K mainGlobals "bool" = some none)
    (z_enumerate : PySem.W.nsIn K mainGlobals "enumerate" = some none)
    (z_int : PySem.W.nsIn K mainGlobals "int" = some none)
    (z_isinstance : PySem.W.nsIn K mainGlobals "isinstance" = some none)
    (z_len : PySem.W.nsIn K mainGlobals "len" = some none)
    (z_list : PySem.W.nsIn K mainGlobals "list" = some none)
    (z_max : PySem.W.nsIn K mainGlobals "max" = some none)
    (z_min : PySem.W.nsIn K mainGlobals "min" = some none)
    (z_range : PySem.W.nsIn K mainGlobals "range" = some none)
    (z_repr : PySem.W.nsIn K mainGlobals "repr" = some none)
    (z_set : PySem.W.nsIn K mainGlobals "set" = some none)
    (z_sorted : PySem.W.nsIn K mainGlobals "sorted" = some none)
    (z_sum : PySem.W.nsIn K mainGlobals "sum" = some none)
    (z_tuple : PySem.W.nsIn K mainGlobals "tuple" = some none)
    (z_zip : PySem.W.nsIn K mainGlobals "zip" = some none)
    (m_MOST_CORNERS : PySem.W.nsIn K mainGlobals "MOST_CORNERS" = some (some (.int 10 u_MOST_CORNERS)))
    (m_MOST_FAR : PySem.W.nsIn K mainGlobals "MOST_FAR" = some (some (.int 99 u_MOST_FAR)))
    (a_is_number : PySem.W.nsIn K mainGlobals "is_number" = some (some (.ref ad.is_number)))
    (l_is_number : K.lookup ad.is_number = some ⟨oc_is_number, od_is_number, .func (PySem.W.fnOf "is_number" "is_number" (defArgs s_is_number) (defBody s_is_number) (defScope s_is_number) .none kV_is_number dc_is_number pm_is_number an_is_number cd_is_number ct_is_number), sl_is_number⟩)
    (c_is_number : PySem.W.codeIn K cd_is_number "is_number" = true)
    (k_is_number : PySem.W.keepIn K (.ref ad.is_number) = true)
    (a_is_sized : PySem.W.nsIn K mainGlobals "is_sized" = some (some (.ref ad.is_sized)))
    (l_is_sized : K.lookup ad.is_sized = some ⟨oc_is_sized, od_is_sized, .func (PySem.W.fnOf "is_sized" "is_sized" (defArgs s_is_sized) (defBody s_is_sized) (defScope s_is_sized) .none kV_is_sized dc_is_sized pm_is_sized an_is_sized cd_is_sized ct_is_sized), sl_is_sized⟩)
    (c_is_sized : PySem.W.codeIn K cd_is_sized "is_sized" = true)
    (k_is_sized : PySem.W.keepIn K (.ref ad.is_sized) = true)
    (a_is_couple : PySem.W.nsIn K mainGlobals "is_couple" = some (some (.ref ad.is_couple)))
    (l_is_couple : K.lookup ad.is_couple = some ⟨oc_is_couple, od_is_couple, .func (PySem.W.fnOf "is_couple" "is_couple" (defArgs s_is_couple) (defBody s_is_couple) (defScope s_is_couple) .none kV_is_couple dc_is_couple pm_is_couple an_is_couple cd_is_couple ct_is_couple), sl_is_couple⟩)
    (c_is_couple : PySem.W.codeIn K cd_is_couple "is_couple" = true)
    (k_is_couple : PySem.W.keepIn K (.ref ad.is_couple) = true)
    (a_is_tuple_of : PySem.W.nsIn K mainGlobals "is_tuple_of" = some (some (.ref ad.is_tuple_of)))
    (l_is_tuple_of : K.lookup ad.is_tuple_of = some ⟨oc_is_tuple_of, od_is_tuple_of, .func (PySem.W.fnOf "is_tuple_of" "is_tuple_of" (defArgs s_is_tuple_of) (defBody s_is_tuple_of) (defScope s_is_tuple_of) .none kV_is_tuple_of dc_is_tuple_of pm_is_tuple_of an_is_tuple_of cd_is_tuple_of ct_is_tuple_of), sl_is_tuple_of⟩)
    (c_is_tuple_of : PySem.W.codeIn K cd_is_tuple_of "is_tuple_of" = true)
    (k_is_tuple_of : PySem.W.keepIn K (.ref ad.is_tuple_of) = true)
    (a_is_corners : PySem.W.nsIn K mainGlobals "is_corners" = some (some (.ref ad.is_corners)))
    (l_is_corners : K.lookup ad.is_corners = some ⟨oc_is_corners, od_is_corners, .func (PySem.W.fnOf "is_corners" "is_corners" (defArgs s_is_corners) (defBody s_is_corners) (defScope s_is_corners) .none kV_is_corners dc_is_corners pm_is_corners an_is_corners cd_is_corners ct_is_corners), sl_is_corners⟩)
    (c_is_corners : PySem.W.codeIn K cd_is_corners "is_corners" = true)
    (k_is_corners : PySem.W.keepIn K (.ref ad.is_corners) = true)
    (a_turn_of : PySem.W.nsIn K mainGlobals "turn_of" = some (some (.ref ad.turn_of)))
    (l_turn_of : K.lookup ad.turn_of = some ⟨oc_turn_of, od_turn_of, .func (PySem.W.fnOf "turn_of" "turn_of" (defArgs s_turn_of) (defBody s_turn_of) (defScope s_turn_of) .none kV_turn_of dc_turn_of pm_turn_of an_turn_of cd_turn_of ct_turn_of), sl_turn_of⟩)
    (c_turn_of : PySem.W.codeIn K cd_turn_of "turn_of" = true)
    (k_turn_of : PySem.W.keepIn K (.ref ad.turn_of) = true)
    (a_chain : PySem.W.nsIn K mainGlobals "chain" = some (some (.ref ad.chain)))
    (l_chain : K.lookup ad.chain = some ⟨oc_chain, od_chain, .func (PySem.W.fnOf "chain" "chain" (defArgs s_chain) (defBody s_chain) (defScope s_chain) .none kV_chain dc_chain pm_chain an_chain cd_chain ct_chain), sl_chain⟩)
    (c_chain : PySem.W.codeIn K cd_chain "chain" = true)
    (k_chain : PySem.W.keepIn K (.ref ad.chain) = true)
    (a_hull_of : PySem.W.nsIn K mainGlobals "hull_of" = some (some (.ref ad.hull_of)))
    (l_hull_of : K.lookup ad.hull_of = some ⟨oc_hull_of, od_hull_of, .func (PySem.W.fnOf "hull_of" "hull_of" (defArgs s_hull_of) (defBody s_hull_of) (defScope s_hull_of) .none kV_hull_of dc_hull_of pm_hull_of an_hull_of cd_hull_of ct_hull_of), sl_hull_of⟩)
    (c_hull_of : PySem.W.codeIn K cd_hull_of "hull_of" = true)
    (k_hull_of : PySem.W.keepIn K (.ref ad.hull_of) = true)
    (a_is_hull : PySem.W.nsIn K mainGlobals "is_hull" = some (some (.ref ad.is_hull)))
    (l_is_hull : K.lookup ad.is_hull = some ⟨oc_is_hull, od_is_hull, .func (PySem.W.fnOf "is_hull" "is_hull" (defArgs s_is_hull) (defBody s_is_hull) (defScope s_is_hull) .none kV_is_hull dc_is_hull pm_is_hull an_is_hull cd_is_hull ct_is_hull), sl_is_hull⟩)
    (c_is_hull : PySem.W.codeIn K cd_is_hull "is_hull" = true)
    (k_is_hull : PySem.W.keepIn K (.ref ad.is_hull) = true)
    (a_checked_part : PySem.W.nsIn K mainGlobals "checked_part" = some (some (.ref ad.checked_part)))
    (l_checked_part : K.lookup ad.checked_part = some ⟨oc_checked_part, od_checked_part, .func (PySem.W.fnOf "checked_part" "checked_part" (defArgs s_checked_part) (defBody s_checked_part) (defScope s_checked_part) .none kV_checked_part dc_checked_part pm_checked_part an_checked_part cd_checked_part ct_checked_part), sl_checked_part⟩)
    (c_checked_part : PySem.W.codeIn K cd_checked_part "checked_part" = true)
    (k_checked_part : PySem.W.keepIn K (.ref ad.checked_part) = true)
    (a_sides_of : PySem.W.nsIn K mainGlobals "sides_of" = some (some (.ref ad.sides_of)))
    (l_sides_of : K.lookup ad.sides_of = some ⟨oc_sides_of, od_sides_of, .func (PySem.W.fnOf "sides_of" "sides_of" (defArgs s_sides_of) (defBody s_sides_of) (defScope s_sides_of) .none kV_sides_of dc_sides_of pm_sides_of an_sides_of cd_sides_of ct_sides_of), sl_sides_of⟩)
    (c_sides_of : PySem.W.codeIn K cd_sides_of "sides_of" = true)
    (k_sides_of : PySem.W.keepIn K (.ref ad.sides_of) = true)
    (a_double_area : PySem.W.nsIn K mainGlobals "double_area" = some (some (.ref ad.double_area)))
    (l_double_area : K.lookup ad.double_area = some ⟨oc_double_area, od_double_area, .func (PySem.W.fnOf "double_area" "double_area" (defArgs s_double_area) (defBody s_double_area) (defScope s_double_area) .none kV_double_area dc_double_area pm_double_area an_double_area cd_double_area ct_double_area), sl_double_area⟩)
    (c_double_area : PySem.W.codeIn K cd_double_area "double_area" = true)
    (k_double_area : PySem.W.keepIn K (.ref ad.double_area) = true)
    (a_is_within : PySem.W.nsIn K mainGlobals "is_within" = some (some (.ref ad.is_within)))
    (l_is_within : K.lookup ad.is_within = some ⟨oc_is_within, od_is_within, .func (PySem.W.fnOf "is_within" "is_within" (defArgs s_is_within) (defBody s_is_within) (defScope s_is_within) .none kV_is_within dc_is_within pm_is_within an_is_within cd_is_within ct_is_within), sl_is_within⟩)
    (c_is_within : PySem.W.codeIn K cd_is_within "is_within" = true)
    (k_is_within : PySem.W.keepIn K (.ref ad.is_within) = true)
    (a_shifted : PySem.W.nsIn K mainGlobals "shifted" = some (some (.ref ad.shifted)))
    (l_shifted : K.lookup ad.shifted = some ⟨oc_shifted, od_shifted, .func (PySem.W.fnOf "shifted" "shifted" (defArgs s_shifted) (defBody s_shifted) (defScope s_shifted) .none kV_shifted dc_shifted pm_shifted an_shifted cd_shifted ct_shifted), sl_shifted⟩)
    (c_shifted : PySem.W.codeIn K cd_shifted "shifted" = true)
    (k_shifted : PySem.W.keepIn K (.ref ad.shifted) = true)
    (a_frame_of : PySem.W.nsIn K mainGlobals "frame_of" = some (some (.ref ad.frame_of)))
    (l_frame_of : K.lookup ad.frame_of = some ⟨oc_frame_of, od_frame_of, .func (PySem.W.fnOf "frame_of" "frame_of" (defArgs s_frame_of) (defBody s_frame_of) (defScope s_frame_of) .none kV_frame_of dc_frame_of pm_frame_of an_frame_of cd_frame_of ct_frame_of), sl_frame_of⟩)
    (c_frame_of : PySem.W.codeIn K cd_frame_of "frame_of" = true)
    (k_frame_of : PySem.W.keepIn K (.ref ad.frame_of) = true)
    (a_first_on_left : PySem.W.nsIn K mainGlobals "first_on_left" = some (some (.ref ad.first_on_left)))
    (l_first_on_left : K.lookup ad.first_on_left = some ⟨oc_first_on_left, od_first_on_left, .func (PySem.W.fnOf "first_on_left" "first_on_left" (defArgs s_first_on_left) (defBody s_first_on_left) (defScope s_first_on_left) .none kV_first_on_left dc_first_on_left pm_first_on_left an_first_on_left cd_first_on_left ct_first_on_left), sl_first_on_left⟩)
    (c_first_on_left : PySem.W.codeIn K cd_first_on_left "first_on_left" = true)
    (k_first_on_left : PySem.W.keepIn K (.ref ad.first_on_left) = true)
    (a_far_along : PySem.W.nsIn K mainGlobals "far_along" = some (some (.ref ad.far_along)))
    (l_far_along : K.lookup ad.far_along = some ⟨oc_far_along, od_far_along, .func (PySem.W.fnOf "far_along" "far_along" (defArgs s_far_along) (defBody s_far_along) (defScope s_far_along) .none kV_far_along dc_far_along pm_far_along an_far_along cd_far_along ct_far_along), sl_far_along⟩)
    (c_far_along : PySem.W.codeIn K cd_far_along "far_along" = true)
    (k_far_along : PySem.W.keepIn K (.ref ad.far_along) = true)
    (a__law_bag : PySem.W.nsIn K mainGlobals "_law_bag" = some (some (.ref ad._law_bag)))
    (l__law_bag : K.lookup ad._law_bag = some ⟨oc__law_bag, od__law_bag, .func (PySem.W.fnOf "_law_bag" "_law_bag" (defArgs s__law_bag) (defBody s__law_bag) (defScope s__law_bag) .none kV__law_bag dc__law_bag pm__law_bag an__law_bag cd__law_bag ct__law_bag), sl__law_bag⟩)
    (c__law_bag : PySem.W.codeIn K cd__law_bag "_law_bag" = true)
    (k__law_bag : PySem.W.keepIn K (.ref ad._law_bag) = true)
    (a__law_take : PySem.W.nsIn K mainGlobals "_law_take" = some (some (.ref ad._law_take)))
    (l__law_take : K.lookup ad._law_take = some ⟨oc__law_take, od__law_take, .func (PySem.W.fnOf "_law_take" "_law_take" (defArgs s__law_take) (defBody s__law_take) (defScope s__law_take) .none kV__law_take dc__law_take pm__law_take an__law_take cd__law_take ct__law_take), sl__law_take⟩)
    (c__law_take : PySem.W.codeIn K cd__law_take "_law_take" = true)
    (k__law_take : PySem.W.keepIn K (.ref ad._law_take) = true)
    (a__law_some : PySem.W.nsIn K mainGlobals "_law_some" = some (some (.ref ad._law_some)))
    (l__law_some : K.lookup ad._law_some = some ⟨oc__law_some, od__law_some, .func (PySem.W.fnOf "_law_some" "_law_some" (defArgs s__law_some) (defBody s__law_some) (defScope s__law_some) .none kV__law_some dc__law_some pm__law_some an__law_some cd__law_some ct__law_some), sl__law_some⟩)
    (c__law_some : PySem.W.codeIn K cd__law_some "_law_some" = true)
    (k__law_some : PySem.W.keepIn K (.ref ad._law_some) = true)
    (a__law_alike : PySem.W.nsIn K mainGlobals "_law_alike" = some (some (.ref ad._law_alike)))
    (l__law_alike : K.lookup ad._law_alike = some ⟨oc__law_alike, od__law_alike, .func (PySem.W.fnOf "_law_alike" "_law_alike" (defArgs s__law_alike) (defBody s__law_alike) (defScope s__law_alike) .none kV__law_alike dc__law_alike pm__law_alike an__law_alike cd__law_alike ct__law_alike), sl__law_alike⟩)
    (c__law_alike : PySem.W.codeIn K cd__law_alike "_law_alike" = true)
    (k__law_alike : PySem.W.keepIn K (.ref ad._law_alike) = true)
    (a__law_gcd : PySem.W.nsIn K mainGlobals "_law_gcd" = some (some (.ref ad._law_gcd)))
    (l__law_gcd : K.lookup ad._law_gcd = some ⟨oc__law_gcd, od__law_gcd, .func (PySem.W.fnOf "_law_gcd" "_law_gcd" (defArgs s__law_gcd) (defBody s__law_gcd) (defScope s__law_gcd) .none kV__law_gcd dc__law_gcd pm__law_gcd an__law_gcd cd__law_gcd ct__law_gcd), sl__law_gcd⟩)
    (c__law_gcd : PySem.W.codeIn K cd__law_gcd "_law_gcd" = true)
    (k__law_gcd : PySem.W.keepIn K (.ref ad._law_gcd) = true)
    (a__law_cross : PySem.W.nsIn K mainGlobals "_law_cross" = some (some (.ref ad._law_cross)))
    (l__law_cross : K.lookup ad._law_cross = some ⟨oc__law_cross, od__law_cross, .func (PySem.W.fnOf "_law_cross" "_law_cross" (defArgs s__law_cross) (defBody s__law_cross) (defScope s__law_cross) .none kV__law_cross dc__law_cross pm__law_cross an__law_cross cd__law_cross ct__law_cross), sl__law_cross⟩)
    (c__law_cross : PySem.W.codeIn K cd__law_cross "_law_cross" = true)
    (k__law_cross : PySem.W.keepIn K (.ref ad._law_cross) = true)
    (a__law_hull : PySem.W.nsIn K mainGlobals "_law_hull" = some (some (.ref ad._law_hull)))
    (l__law_hull : K.lookup ad._law_hull = some ⟨oc__law_hull, od__law_hull, .func (PySem.W.fnOf "_law_hull" "_law_hull" (defArgs s__law_hull) (defBody s__law_hull) (defScope s__law_hull) .none kV__law_hull dc__law_hull pm__law_hull an__law_hull cd__law_hull ct__law_hull), sl__law_hull⟩)
    (c__law_hull : PySem.W.codeIn K cd__law_hull "_law_hull" = true)
    (k__law_hull : PySem.W.keepIn K (.ref ad._law_hull) = true)
    (a__law_part : PySem.W.nsIn K mainGlobals "_law_part" = some (some (.ref ad._law_part)))
    (l__law_part : K.lookup ad._law_part = some ⟨oc__law_part, od__law_part, .func (PySem.W.fnOf "_law_part" "_law_part" (defArgs s__law_part) (defBody s__law_part) (defScope s__law_part) .none kV__law_part dc__law_part pm__law_part an__law_part cd__law_part ct__law_part), sl__law_part⟩)
    (c__law_part : PySem.W.codeIn K cd__law_part "_law_part" = true)
    (k__law_part : PySem.W.keepIn K (.ref ad._law_part) = true)
    (a_law : PySem.W.nsIn K mainGlobals "law" = some (some (.ref ad.law)))
    (l_law : K.lookup ad.law = some ⟨oc_law, od_law, .func (PySem.W.fnOf "law" "law" (defArgs s_law) (defBody s_law) (defScope s_law) .none kV_law dc_law pm_law an_law (.ref ad.c_law) ct_law), sl_law⟩)
    (c_law : PySem.W.codeIn K (.ref ad.c_law) "law" = true)
    (k_law : PySem.W.keepIn K (.ref ad.law) = true)
    (a__law_raised : PySem.W.nsIn K mainGlobals "_law_raised" = some (some (.ref ad._law_raised)))
    (l__law_raised : K.lookup ad._law_raised = some ⟨oc__law_raised, od__law_raised, .func (PySem.W.fnOf "_law_raised" "_law_raised" (defArgs s__law_raised) (defBody s__law_raised) (defScope s__law_raised) .none kV__law_raised dc__law_raised pm__law_raised an__law_raised cd__law_raised ct__law_raised), sl__law_raised⟩)
    (c__law_raised : PySem.W.codeIn K cd__law_raised "_law_raised" = true)
    (k__law_raised : PySem.W.keepIn K (.ref ad._law_raised) = true)
    (e_Nothing : excB K ad.Nothing = true)
    (t_Nothing_Nothing : PySem.W.exmOne K (.ref ad.Nothing) (.ref ad.Nothing) = some true)
    (t_Nothing_BadPart : PySem.W.exmOne K (.ref ad.BadPart) (.ref ad.Nothing) = some false)
    (t_Nothing_TooLarge : PySem.W.exmOne K (.ref xa_TooLarge) (.ref ad.Nothing) = some false)
    (t_BadPart_BadPart : PySem.W.exmOne K (.ref ad.BadPart) (.ref ad.BadPart) = some true)
    (t_BadPart_Nothing : PySem.W.exmOne K (.ref ad.Nothing) (.ref ad.BadPart) = some false)
    (t_BadPart_TooLarge : PySem.W.exmOne K (.ref xa_TooLarge) (.ref ad.BadPart) = some false)
    (b_BadPart : xfB K ad.BadPart = true)
    (hg_BadPart_fault : PySem.W.findIn K (.ref ad.BadPart) "fault" = some none)
    (hg_BadPart_number : PySem.W.findIn K (.ref ad.BadPart) "number" = some none)
    (x_BadPart : ∀ base, Exc2 l.prog w K mg base 1 "BadPart" "number" "fault")
    (x_TooLarge : ∀ base, Exc2 l.prog w K mg base 1 "TooLarge" "what" "limit")
    (hc : PySem.W.codeHdIn K ad.c_law ad.tab = true) (hP : h.get? ad.tab = some (tblO #[])) (nP : K.lookup ad.tab = none) : LawAtG l w K 10 63 "script" mg fa h := by
  have e := hfa.symm.trans (PySem.W.mg_of X G a_law)
  cases e
  have Z : Tx K mg ad := ⟨(noAt_mk X G z_abs),
    (noAt_mk X G z_all),
    (noAt_mk X G z_bool),
    (noAt_mk X G z_enumerate),
    (noAt_mk X G z_int),
    (noAt_mk X G z_isinstance),
    (noAt_mk X G z_len),
    (noAt_mk X G z_list),
    (noAt_mk X G z_max),
    (noAt_mk X G z_min),
    (noAt_mk X G z_range),
    (noAt_mk X G z_repr),
    (noAt_mk X G z_set),
    (noAt_mk X G z_sorted),
    (noAt_mk X G z_sum),
    (noAt_mk X G z_tuple),
    (noAt_mk X G z_zip),
    (⟨_, PySem.W.mg_of X G m_MOST_CORNERS⟩),
    (⟨_, PySem.W.mg_of X G m_MOST_FAR⟩),
    (⟨_, defC_mk X G a_is_number l_is_number c_is_number k_is_number fun _ _ _ _ _ _ us hl => match us, hl with | [_], _ => rfl⟩),
    (⟨_, defC_mk X G a_is_sized l_is_sized c_is_sized k_is_sized fun _ _ _ _ _ _ us hl => match us, hl with | [_, _], _ => rfl⟩),
    (⟨_, defC_mk X G a_is_couple l_is_couple c_is_couple k_is_couple fun _ _ _ _ _ _ us hl => match us, hl with | [_], _ => rfl⟩),
    (⟨_, defC_mk X G a_is_tuple_of l_is_tuple_of c_is_tuple_of k_is_tuple_of fun _ _ _ _ _ _ us hl => match us, hl with | [_, _], _ => rfl⟩),
    (⟨_, defC_mk X G a_is_corners l_is_corners c_is_corners k_is_corners fun _ _ _ _ _ _ us hl => match us, hl with | [_], _ => rfl⟩),
    (⟨_, defC_mk X G a_turn_of l_turn_of c_turn_of k_turn_of fun _ _ _ _ _ _ us hl => match us, hl with | [_, _, _], _ => rfl⟩),
    (⟨_, defC_mk X G a_chain l_chain c_chain k_chain fun _ _ _ _ _ _ us hl => match us, hl with | [_], _ => rfl⟩),
    (⟨_, defC_mk X G a_hull_of l_hull_of c_hull_of k_hull_of fun _ _ _ _ _ _ us hl => match us, hl with | [_], _ => rfl⟩),
    (⟨_, defC_mk X G a_is_hull l_is_hull c_is_hull k_is_hull fun _ _ _ _ _ _ us hl => match us, hl with | [_], _ => rfl⟩),
    (⟨_, defC_mk X G a_checked_part l_checked_part c_checked_part k_checked_part fun _ _ _ _ _ _ us hl => match us, hl with | [_], _ => rfl⟩),
    (⟨_, defC_mk X G a_sides_of l_sides_of c_sides_of k_sides_of fun _ _ _ _ _ _ us hl => match us, hl with | [_], _ => rfl⟩),
    (⟨_, defC_mk X G a_double_area l_double_area c_double_area k_double_area fun _ _ _ _ _ _ us hl => match us, hl with | [_], _ => rfl⟩),
    (⟨_, defC_mk X G a_is_within l_is_within c_is_within k_is_within fun _ _ _ _ _ _ us hl => match us, hl with | [_, _], _ => rfl⟩),
    (⟨_, defC_mk X G a_shifted l_shifted c_shifted k_shifted fun _ _ _ _ _ _ us hl => match us, hl with | [_, _], _ => rfl⟩),
    (⟨_, defC_mk X G a_frame_of l_frame_of c_frame_of k_frame_of fun _ _ _ _ _ _ us hl => match us, hl with | [_], _ => rfl⟩),
    (⟨_, defC_mk X G a_first_on_left l_first_on_left c_first_on_left k_first_on_left fun _ _ _ _ _ _ us hl => match us, hl with | [_, _], _ => rfl⟩),
    (⟨_, defC_mk X G a_far_along l_far_along c_far_along k_far_along fun _ _ _ _ _ _ us hl => match us, hl with | [_, _], _ => rfl⟩),
    (⟨_, defC_mk X G a__law_bag l__law_bag c__law_bag k__law_bag fun _ _ _ _ _ _ us hl => match us, hl with | [_], _ => rfl⟩),
    (⟨_, defC_mk X G a__law_take l__law_take c__law_take k__law_take fun _ _ _ _ _ _ us hl => match us, hl with | [_, _], _ => rfl⟩),
    (⟨_, defC_mk X G a__law_some l__law_some c__law_some k__law_some fun _ _ _ _ _ _ us hl => match us, hl with | [_, _], _ => rfl⟩),
    (⟨_, defC_mk X G a__law_alike l__law_alike c__law_alike k__law_alike fun _ _ _ _ _ _ us hl => match us, hl with | [_, _], _ => rfl⟩),
    (⟨_, defC_mk X G a__law_gcd l__law_gcd c__law_gcd k__law_gcd fun _ _ _ _ _ _ us hl => match us, hl with | [_, _], _ => rfl⟩),
    (⟨_, defC_mk X G a__law_cross l__law_cross c__law_cross k__law_cross fun _ _ _ _ _ _ us hl => match us, hl with | [_, _], _ => rfl⟩),
    (⟨_, defC_mk X G a__law_hull l__law_hull c__law_hull k__law_hull fun _ _ _ _ _ _ us hl => match us, hl with | [_], _ => rfl⟩),
    (⟨_, defC_mk X G a__law_part l__law_part c__law_part k__law_part fun _ _ _ _ _ _ us hl => match us, hl with | [_, _], _ => rfl⟩),
    (defC_mk X G a_law l_law c_law k_law fun _ _ _ _ _ _ us hl => match us, hl with | [_], _ => rfl),
    (⟨_, defC_mk X G a__law_raised l__law_raised c__law_raised k__law_raised fun _ _ _ _ _ _ us hl => match us, hl with | [_], _ => rfl⟩),
    (exc0_mk X G g_Nothing e_Nothing),
    (PySem.W.mg_of X G g_Nothing),
    (by
    intro n b C hn hm
    unfold mt_Nothing at hn
    split at hn
    · rename_i e
      subst e
      cases hn
      cases (PySem.W.mg_of X G g_Nothing).symm.trans hm
      exact t_Nothing_Nothing
    · split at hn
      · rename_i e
        rcases e with rfl | rfl
        · cases hn
          cases (PySem.W.mg_of X G g_BadPart).symm.trans hm
          exact t_Nothing_BadPart
        · cases hn
          cases (PySem.W.mg_of X G g_TooLarge).symm.trans hm
          exact t_Nothing_TooLarge
      · cases hn),
    (PySem.W.mg_of X G g_BadPart),
    (by
    intro n b C hn hm
    unfold mt_BadPart at hn
    split at hn
    · rename_i e
      subst e
      cases hn
      cases (PySem.W.mg_of X G g_BadPart).symm.trans hm
      exact t_BadPart_BadPart
    · split at hn
      · rename_i e
        rcases e with rfl | rfl
        · cases hn
          cases (PySem.W.mg_of X G g_Nothing).symm.trans hm
          exact t_BadPart_Nothing
        · cases hn
          cases (PySem.W.mg_of X G g_TooLarge).symm.trans hm
          exact t_BadPart_TooLarge
      · cases hn),
    (xfB_ok b_BadPart),
    (hg_BadPart_fault),
    (hg_BadPart_number)⟩
  refine lawAt_mk (T := TT ad) (F := F_law ad) (fd := PySem.W.fnOf "law" "law" (defArgs s_law) (defBody s_law) (defScope s_law) .none kV_law dc_law pm_law an_law (.ref ad.c_law) ct_law) X hc hP nP (fun s v => .of_eq rfl) (fun q hq => by rcases List.mem_singleton.mp hq with rfl; rfl) (fun ns hl _ => ⟨_, law_ok ad ns⟩) fun base KX G2 TB => ?_
  have c_is_number : Cal l.prog w K mg base (TT ad) 2 "is_number" ["thing"] F_is_number := t_is_number Z
  have c_is_sized : Cal l.prog w K mg base (TT ad) 2 "is_sized" ["thing", "many"] F_is_sized := t_is_sized Z
  have c_is_couple : Cal l.prog w K mg base (TT ad) 3 "is_couple" ["thing"] F_is_couple := t_is_couple Z c_is_sized c_is_number
  have c_is_tuple_of : Cal l.prog w K mg base (TT ad) 4 "is_tuple_of" ["thing", "is_one"] (F_is_tuple_of ad) := t_is_tuple_of Z c_is_couple
  have c_is_corners : Cal l.prog w K mg base (TT ad) 5 "is_corners" ["thing"] (F_is_corners ad) := t_is_corners Z c_is_tuple_of
  have c_turn_of : Cal l.prog w K mg base (TT ad) 2 "turn_of" ["one", "two", "three"] F_turn_of := t_turn_of Z
  have c_chain : Cal l.prog w K mg base (TT ad) 3 "chain" ["points"] F_chain := t_chain Z c_turn_of
  have c_hull_of : Cal l.prog w K mg base (TT ad) 4 "hull_of" ["points"] F_hull_of := t_hull_of Z c_chain
  have c_is_hull : Cal l.prog w K mg base (TT ad) 5 "is_hull" ["corners"] F_is_hull := t_is_hull Z c_hull_of
  have c_checked_part : Cal l.prog w K mg base (TT ad) 6 "checked_part" ["thing"] (F_checked_part ad) := t_checked_part Z (x_BadPart base) (x_TooLarge base) c_is_corners c_is_hull
  have c_sides_of : Cal l.prog w K mg base (TT ad) 2 "sides_of" ["part"] F_sides_of := t_sides_of Z
  have c_double_area : Cal l.prog w K mg base (TT ad) 2 "double_area" ["part"] F_double_area := t_double_area Z
  have c_is_within : Cal l.prog w K mg base (TT ad) 3 "is_within" ["part", "point"] F_is_within := t_is_within Z c_turn_of
  have c_shifted : Cal l.prog w K mg base (TT ad) 7 "shifted" ["part", "by"] (F_shifted ad) := t_shifted Z c_checked_part
  have c_frame_of : Cal l.prog w K mg base (TT ad) 2 "frame_of" ["part"] F_frame_of := t_frame_of Z
  have c_first_on_left : Cal l.prog w K mg base (TT ad) 2 "first_on_left" ["part", "way"] F_first_on_left := t_first_on_left Z
  have c_far_along : Cal l.prog w K mg base (TT ad) 2 "far_along" ["part", "way"] F_far_along := t_far_along Z
  have c__law_bag : Cal l.prog w K mg base (TT ad) 2 "_law_bag" ["script"] F__law_bag := t__law_bag Z
  have c__law_take : Cal l.prog w K mg base (TT ad) 2 "_law_take" ["bag", "many"] F__law_take := t__law_take Z
  have c__law_some : Cal l.prog w K mg base (TT ad) 3 "_law_some" ["bag", "things"] F__law_some := t__law_some Z c__law_take
  have c__law_alike : CalG l.prog w K mg base (TT ad) 2 "_law_alike" ["found", "due"] F__law_alike := t__law_alike Z
  have c__law_gcd : Cal l.prog w K mg base (TT ad) 2 "_law_gcd" ["a", "b"] F__law_gcd := t__law_gcd Z
  have c__law_cross : Cal l.prog w K mg base (TT ad) 2 "_law_cross" ["one", "other"] F__law_cross := t__law_cross Z
  have c__law_hull : Cal l.prog w K mg base (TT ad) 3 "_law_hull" ["spots"] F__law_hull := t__law_hull Z c__law_cross
  have c__law_part : Cal l.prog w K mg base (TT ad) 4 "_law_part" ["bag", "most"] F__law_part := t__law_part Z c__law_take c__law_some c__law_hull
  have c_law : CalG l.prog w K mg base (TT ad) 10 "law" ["script"] (F_law ad) := t_law Z TB c__law_bag c__law_part c__law_cross c__law_alike c_frame_of c_double_area c_sides_of c__law_take c__law_some c__law_gcd c__law_hull c_is_within c_first_on_left c_far_along c_shifted
  exact lawG c_law hfa l_law
theorem law_at2 {l : PySem.W.OpenLaw} {w : World} {K : PySem.W.Frag} {h : Heap} {mg : Str → Option Value} {fa : Addr} {d_is_number d_is_sized d_is_couple d_is_tuple_of d_is_corners d_turn_of d_chain d_hull_of d_is_hull d_checked_part d_sides_of d_double_area d_is_within d_shifted d_frame_of d_first_on_left d_far_along d__law_bag d__law_take d__law_some d__law_alike d__law_gcd d__law_cross d__law_hull d__law_part d_law d__law_raised d_Nothing d_BadPart d_c_law d_tab : Addr} {u_MOST_CORNERS : Tok} {u_MOST_FAR : Tok} {oc_is_number kV_is_number dc_is_number pm_is_number cd_is_number ct_is_number : Value} {od_is_number an_is_number : Option Addr} {sl_is_number : Array (Option Value)} {oc_is_sized kV_is_sized dc_is_sized pm_is_sized cd_is_sized ct_is_sized : Value} {od_is_sized an_is_sized : Option Addr} {sl_is_sized : Array (Option Value)} {oc_is_couple kV_is_couple dc_is_couple pm_is_couple cd_is_couple ct_is_couple : Value} {od_is_couple an_is_couple : Option Addr} {sl_is_couple : Array (Option Value)} {oc_is_tuple_of kV_is_tuple_of dc_is_tuple_of pm_is_tuple_of cd_is_tuple_of ct_is_tuple_of : Value} {od_is_tuple_of an_is_tuple_of : Option Addr} {sl_is_tuple_of : Array (Option Value)} {oc_is_corners kV_is_corners dc_is_corners pm_is_corners cd_is_corners ct_is_corners : Value} {od_is_corners an_is_corners : Option Addr} {sl_is_corners : Array (Option Value)} {oc_turn_of kV_turn_of dc_turn_of pm_turn_of cd_turn_of ct_turn_of : Value} {od_turn_of an_turn_of : Option Addr} {sl_turn_of : Array (Option Value)} {oc_chain kV_chain dc_chain pm_chain cd_chain ct_chain : Value} {od_chain an_chain : Option Addr} {sl_chain : Array (Option Value)} {oc_hull_of kV_hull_of dc_hull_of pm_hull_of cd_hull_of ct_hull_of : Value} {od_hull_of an_hull_of : Option Addr} {sl_hull_of : Array (Option Value)} {oc_is_hull kV_is_hull dc_is_hull pm_is_hull cd_is_hull ct_is_hull : Value} {od_is_hull an_is_hull : Option Addr} {sl_is_hull : Array (Option Value)} {oc_checked_part kV_checked_part dc_checked_part pm_checked_part cd_checked_part ct_checked_part : Value} {od_checked_part an_checked_part : Option Addr} {sl_checked_part : Array (Option Value)} {oc_sides_of kV_sides_of dc_sides_of pm_sides_of cd_sides_of ct_sides_of : Value} {od_sides_of an_sides_of : Option Addr} {sl_sides_of : Array (Option Value)} {oc_double_area kV_double_area dc_double_area pm_double_area cd_double_area ct_double_area : Value} {od_double_area an_double_area : Option Addr} {sl_double_area : Array (Option Value)} {oc_is_within kV_is_within dc_is_within pm_is_within cd_is_within ct_is_within : Value} {od_is_within an_is_within : Option Addr} {sl_is_within : Array (Option Value)} {oc_shifted kV_shifted dc_shifted pm_shifted cd_shifted ct_shifted : Value} {od_shifted an_shifted : Option Addr} {sl_shifted : Array (Option Value)} {oc_frame_of kV_frame_of dc_frame_of pm_frame_of cd_frame_of ct_frame_of : Value} {od_frame_of an_frame_of : Option Addr} {sl_frame_of : Array (Option Value)} {oc_first_on_left kV_first_on_left dc_first_on_left pm_first_on_left cd_first_on_left ct_first_on_left : Value} {od_first_on_left an_first_on_left : Option Addr} {sl_first_on_left : Array (Option Value)} {oc_far_along kV_far_along dc_far_along pm_far_along cd_far_along ct_far_along : Value} {od_far_along an_far_along : Option Addr} {sl_far_along : Array (Option Value)} {oc__law_bag kV__law_bag dc__law_bag pm__law_bag cd__law_bag ct__law_bag : Value} {od__law_bag an__law_bag : Option Addr} {sl__law_bag : Array (Option Value)} {oc__law_take kV__law_take dc__law_take pm__law_take cd__law_take ct__law_take : Value} {od__law_take an__law_take : Option Addr} {sl__law_take : Array (Option Value)} {oc__law_some kV__law_some dc__law_some pm__law_some cd__law_some ct__law_some : Value} {od__law_some an__law_some : Option Addr} {sl__law_some : Array (Option Value)} {oc__law_alike kV__law_alike dc__law_alike pm__law_alike cd__law_alike ct__law_alike : Value} {od__law_alike an__law_alike : Option Addr} {sl__law_alike : Array (Option Value)} {oc__law_gcd kV__law_gcd dc__law_gcd pm__law_gcd cd__law_gcd ct__law_gcd : Value} {od__law_gcd an__law_gcd : Option Addr} {sl__law_gcd : Array (Option Value)} {oc__law_cross kV__law_cross dc__law_cross pm__law_cross cd__law_cross ct__law_cross : Value} {od__law_cross an__law_cross : Option Addr} {sl__law_cross : Array (Option Value)} {oc__law_hull kV__law_hull dc__law_hull pm__law_hull cd__law_hull ct__law_hull : Value} {od__law_hull an__law_hull : Option Addr} {sl__law_hull : Array (Option Value)} {oc__law_part kV__law_part dc__law_part pm__law_part cd__law_part ct__law_part : Value} {od__law_part an__law_part : Option Addr} {sl__law_part : Array (Option Value)} {oc_law kV_law dc_law pm_law ct_law : Value} {od_law an_law : Option Addr} {sl_law : Array (Option Value)} {oc__law_raised kV__law_raised dc__law_raised pm__law_raised cd__law_raised ct__law_raised : Value} {od__law_raised an__law_raised : Option Addr} {sl__law_raised : Array (Option Value)} {xa_TooLarge : Addr}
    (X : K.In h) (G : h.Ns mainGlobals mg) (hfa : mg "law" = some (.ref fa))
    (g_Nothing : PySem.W.nsIn K mainGlobals "Nothing" = some (some (.ref d_Nothing)))
    (g_BadPart : PySem.W.nsIn K mainGlobals "BadPart" = some (some (.ref d_BadPart)))
    (g_TooLarge : PySem.W.nsIn K mainGlobals "TooLarge" = some (some (.ref xa_TooLarge)))
    (z_abs : PySem.W.nsIn K mainGlobals "abs" = some none)
    (z_all : PySem.W.nsIn K mainGlobals "all" = some none)
    (z_bool : PySem.W.nsIn K mainGlobals "bool" = some none)
    (z_enumerate : PySem.W.nsIn K mainGlobals "enumerate" = some none)
    (z_int : PySem.W.nsIn K mainGlobals "int" = some none)
    (z_isinstance : PySem.W.nsIn K mainGlobals "isinstance" = some none)
    (z_len : PySem.W.nsIn K mainGlobals "len" = some none)
    (z_list : PySem.W.nsIn K mainGlobals "list" = some none)
    (z_max : PySem.W.nsIn K mainGlobals "max" = some none)
    (z_min : PySem.W.nsIn K mainGlobals "min" = some none)
    (z_range : PySem.W.nsIn K mainGlobals "range" = some none)
    (z_repr : PySem.W.nsIn K mainGlobals "repr" = some none)
    (z_set : PySem.W.nsIn K mainGlobals "set" = some none)
    (z_sorted : PySem.W.nsIn K mainGlobals "sorted" = some none)
    (z_sum : PySem.W.nsIn K mainGlobals "sum" = some none)
    (z_tuple : PySem.W.nsIn K mainGlobals "tuple" = some none)
    (z_zip : PySem.W.nsIn K mainGlobals "zip" = some none)
    (m_MOST_CORNERS : PySem.W.nsIn K mainGlobals "MOST_CORNERS" = some (some (.int 10 u_MOST_CORNERS)))
    (m_MOST_FAR : PySem.W.nsIn K mainGlobals "MOST_FAR" = some (some (.int 99 u_MOST_FAR)))
    (a_is_number : PySem.W.nsIn K mainGlobals "is_number" = some (some (.ref d_is_number)))
    (l_is_number : K.lookup d_is_number = some ⟨oc_is_number, od_is_number, .func (PySem.W.fnOf "is_number" "is_number" (defArgs s_is_number) (defBody s_is_number) (defScope s_is_number) .none kV_is_number dc_is_number pm_is_number an_is_number cd_is_number ct_is_number), sl_is_number⟩)
    (c_is_number : PySem.W.codeIn K cd_is_number "is_number" = true)
    (k_is_number : PySem.W.keepIn K (.ref d_is_number) = true)
    (a_is_sized : PySem.W.nsIn K mainGlobals "is_sized" = some (some (.ref d_is_sized)))
    (l_is_sized : K.lookup d_is_sized = some ⟨oc_is_sized, od_is_sized, .func (PySem.W.fnOf "is_sized" "is_sized" (defArgs s_is_sized) (defBody s_is_sized) (defScope s_is_sized) .none kV_is_sized dc_is_sized pm_is_sized an_is_sized cd_is_sized ct_is_sized), sl_is_sized⟩)
    (c_is_sized : PySem.W.codeIn K cd_is_sized "is_sized" = true)
    (k_is_sized : PySem.W.keepIn K (.ref d_is_sized) = true)
    (a_is_couple : PySem.W.nsIn K mainGlobals "is_couple" = some (some (.ref d_is_couple)))
    (l_is_couple : K.lookup d_is_couple = some ⟨oc_is_couple, od_is_couple, .func (PySem.W.fnOf "is_couple" "is_couple" (defArgs s_is_couple) (defBody s_is_couple) (defScope s_is_couple) .none kV_is_couple dc_is_couple pm_is_couple an_is_couple cd_is_couple ct_is_couple), sl_is_couple⟩)
    (c_is_couple : PySem.W.codeIn K cd_is_couple "is_couple" = true)
    (k_is_couple : PySem.W.keepIn K (.ref d_is_couple) = true)
    (a_is_tuple_of : PySem.W.nsIn K mainGlobals "is_tuple_of" = some (some (.ref d_is_tuple_of)))
    (l_is_tuple_of : K.lookup d_is_tuple_of = some ⟨oc_is_tuple_of, od_is_tuple_of, .func (PySem.W.fnOf "is_tuple_of" "is_tuple_of" (defArgs s_is_tuple_of) (defBody s_is_tuple_of) (defScope s_is_tuple_of) .none kV_is_tuple_of dc_is_tuple_of pm_is_tuple_of an_is_tuple_of cd_is_tuple_of ct_is_tuple_of), sl_is_tuple_of⟩)
    (c_is_tuple_of : PySem.W.codeIn K cd_is_tuple_of "is_tuple_of" = true)
    (k_is_tuple_of : PySem.W.keepIn K (.ref d_is_tuple_of) = true)
    (a_is_corners : PySem.W.nsIn K mainGlobals "is_corners" = some (some (.ref d_is_corners)))
    (l_is_corners : K.lookup d_is_corners = some ⟨oc_is_corners, od_is_corners, .func (PySem.W.fnOf "is_corners" "is_corners" (defArgs s_is_corners) (defBody s_is_corners) (defScope s_is_corners) .none kV_is_corners dc_is_corners pm_is_corners an_is_corners cd_is_corners ct_is_corners), sl_is_corners⟩)
    (c_is_corners : PySem.W.codeIn K cd_is_corners "is_corners" = true)
    (k_is_corners : PySem.W.keepIn K (.ref d_is_corners) = true)
    (a_turn_of : PySem.W.nsIn K mainGlobals "turn_of" = some (some (.ref d_turn_of)))
    (l_turn_of : K.lookup d_turn_of = some ⟨oc_turn_of, od_turn_of, .func (PySem.W.fnOf "turn_of" "turn_of" (defArgs s_turn_of) (defBody s_turn_of) (defScope s_turn_of) .none kV_turn_of dc_turn_of pm_turn_of an_turn_of cd_turn_of ct_turn_of), sl_turn_of⟩)
    (c_turn_of : PySem.W.codeIn K cd_turn_of "turn_of" = true)
    (k_turn_of : PySem.W.keepIn K (.ref d_turn_of) = true)
    (a_chain : PySem.W.nsIn K mainGlobals "chain" = some (some (.ref d_chain)))
    (l_chain : K.lookup d_chain = some ⟨oc_chain, od_chain, .func (PySem.W.fnOf "chain" "chain" (defArgs s_chain) (defBody s_chain) (defScope s_chain) .none kV_chain dc_chain pm_chain an_chain cd_chain ct_chain), sl_chain⟩)
    (c_chain : PySem.W.codeIn K cd_chain "chain" = true)
    (k_chain : PySem.W.keepIn K (.ref d_chain) = true)
    (a_hull_of : PySem.W.nsIn K mainGlobals "hull_of" = some (some (.ref d_hull_of)))
    (l_hull_of : K.lookup d_hull_of = some ⟨oc_hull_of, od_hull_of, .func (PySem.W.fnOf "hull_of" "hull_of" (defArgs s_hull_of) (defBody s_hull_of) (defScope s_hull_of) .none kV_hull_of dc_hull_of pm_hull_of an_hull_of cd_hull_of ct_hull_of), sl_hull_of⟩)
    (c_hull_of : PySem.W.codeIn K cd_hull_of "hull_of" = true)
    (k_hull_of : PySem.W.keepIn K (.ref d_hull_of) = true)
    (a_is_hull : PySem.W.nsIn K mainGlobals "is_hull" = some (some (.ref d_is_hull)))
    (l_is_hull : K.lookup d_is_hull = some ⟨oc_is_hull, od_is_hull, .func (PySem.W.fnOf "is_hull" "is_hull" (defArgs s_is_hull) (defBody s_is_hull) (defScope s_is_hull) .none kV_is_hull dc_is_hull pm_is_hull an_is_hull cd_is_hull ct_is_hull), sl_is_hull⟩)
    (c_is_hull : PySem.W.codeIn K cd_is_hull "is_hull" = true)
    (k_is_hull : PySem.W.keepIn K (.ref d_is_hull) = true)
    (a_checked_part : PySem.W.nsIn K mainGlobals "checked_part" = some (some (.ref d_checked_part)))
    (l_checked_part : K.lookup d_checked_part = some ⟨oc_checked_part, od_checked_part, .func (PySem.W.fnOf "checked_part" "checked_part" (defArgs s_checked_part) (defBody s_checked_part) (defScope s_checked_part) .none kV_checked_part dc_checked_part pm_checked_part an_checked_part cd_checked_part ct_checked_part), sl_checked_part⟩)
    (c_checked_part : PySem.W.codeIn K cd_checked_part "checked_part" = true)
    (k_checked_part : PySem.W.keepIn K (.ref d_checked_part) = true)
    (a_sides_of : PySem.W.nsIn K mainGlobals "sides_of" = some (some (.ref d_sides_of)))
    (l_sides_of : K.lookup d_sides_of = some ⟨oc_sides_of, od_sides_of, .func (PySem.W.fnOf "sides_of" "sides_of" (defArgs s_sides_of) (defBody s_sides_of) (defScope s_sides_of) .none kV_sides_of dc_sides_of pm_sides_of an_sides_of cd_sides_of ct_sides_of), sl_sides_of⟩)
    (c_sides_of : PySem.W.codeIn K cd_sides_of "sides_of" = true)
    (k_sides_of : PySem.W.keepIn K (.ref d_sides_of) = true)
    (a_double_area : PySem.W.nsIn K mainGlobals "double_area" = some (some (.ref d_double_area)))
    (l_double_area : K.lookup d_double_area = some ⟨oc_double_area, od_double_area, .func (PySem.W.fnOf "double_area" "double_area" (defArgs s_double_area) (defBody s_double_area) (defScope s_double_area) .none kV_double_area dc_double_area pm_double_area an_double_area cd_double_area ct_double_area), sl_double_area⟩)
    (c_double_area : PySem.W.codeIn K cd_double_area "double_area" = true)
    (k_double_area : PySem.W.keepIn K (.ref d_double_area) = true)
    (a_is_within : PySem.W.nsIn K mainGlobals "is_within" = some (some (.ref d_is_within)))
    (l_is_within : K.lookup d_is_within = some ⟨oc_is_within, od_is_within, .func (PySem.W.fnOf "is_within" "is_within" (defArgs s_is_within) (defBody s_is_within) (defScope s_is_within) .none kV_is_within dc_is_within pm_is_within an_is_within cd_is_within ct_is_within), sl_is_within⟩)
    (c_is_within : PySem.W.codeIn K cd_is_within "is_within" = true)
    (k_is_within : PySem.W.keepIn K (.ref d_is_within) = true)
    (a_shifted : PySem.W.nsIn K mainGlobals "shifted" = some (some (.ref d_shifted)))
    (l_shifted : K.lookup d_shifted = some ⟨oc_shifted, od_shifted, .func (PySem.W.fnOf "shifted" "shifted" (defArgs s_shifted) (defBody s_shifted) (defScope s_shifted) .none kV_shifted dc_shifted pm_shifted an_shifted cd_shifted ct_shifted), sl_shifted⟩)
    (c_shifted : PySem.W.codeIn K cd_shifted "shifted" = true)
    (k_shifted : PySem.W.keepIn K (.ref d_shifted) = true)
    (a_frame_of : PySem.W.nsIn K mainGlobals "frame_of" = some (some (.ref d_frame_of)))
    (l_frame_of : K.lookup d_frame_of = some ⟨oc_frame_of, od_frame_of, .func (PySem.W.fnOf "frame_of" "frame_of" (defArgs s_frame_of) (defBody s_frame_of) (defScope s_frame_of) .none kV_frame_of dc_frame_of pm_frame_of an_frame_of cd_frame_of ct_frame_of), sl_frame_of⟩)
    (c_frame_of : PySem.W.codeIn K cd_frame_of "frame_of" = true)
    (k_frame_of : PySem.W.keepIn K (.ref d_frame_of) = true)
    (a_first_on_left : PySem.W.nsIn K mainGlobals "first_on_left" = some (some (.ref d_first_on_left)))
    (l_first_on_left : K.lookup d_first_on_left = some ⟨oc_first_on_left, od_first_on_left, .func (PySem.W.fnOf "first_on_left" "first_on_left" (defArgs s_first_on_left) (defBody s_first_on_left) (defScope s_first_on_left) .none kV_first_on_left dc_first_on_left pm_first_on_left an_first_on_left cd_first_on_left ct_first_on_left), sl_first_on_left⟩)
    (c_first_on_left : PySem.W.codeIn K cd_first_on_left "first_on_left" = true)
    (k_first_on_left : PySem.W.keepIn K (.ref d_first_on_left) = true)
    (a_far_along : PySem.W.nsIn K mainGlobals "far_along" = some (some (.ref d_far_along)))
    (l_far_along : K.lookup d_far_along = some ⟨oc_far_along, od_far_along, .func (PySem.W.fnOf "far_along" "far_along" (defArgs s_far_along) (defBody s_far_along) (defScope s_far_along) .none kV_far_along dc_far_along pm_far_along an_far_along cd_far_along ct_far_along), sl_far_along⟩)
    (c_far_along : PySem.W.codeIn K cd_far_along "far_along" = true)
    (k_far_along : PySem.W.keepIn K (.ref d_far_along) = true)
    (a__law_bag : PySem.W.nsIn K mainGlobals "_law_bag" = some (some (.ref d__law_bag)))
    (l__law_bag : K.lookup d__law_bag = some ⟨oc__law_bag, od__law_bag, .func (PySem.W.fnOf "_law_bag" "_law_bag" (defArgs s__law_bag) (defBody s__law_bag) (defScope s__law_bag) .none kV__law_bag dc__law_bag pm__law_bag an__law_bag cd__law_bag ct__law_bag), sl__law_bag⟩)
    (c__law_bag : PySem.W.codeIn K cd__law_bag "_law_bag" = true)
    (k__law_bag : PySem.W.keepIn K (.ref d__law_bag) = true)
    (a__law_take : PySem.W.nsIn K mainGlobals "_law_take" = some (some (.ref d__law_take)))
    (l__law_take : K.lookup d__law_take = some ⟨oc__law_take, od__law_take, .func (PySem.W.fnOf "_law_take" "_law_take" (defArgs s__law_take) (defBody s__law_take) (defScope s__law_take) .none kV__law_take dc__law_take pm__law_take an__law_take cd__law_take ct__law_take), sl__law_take⟩)
    (c__law_take : PySem.W.codeIn K cd__law_take "_law_take" = true)
    (k__law_take : PySem.W.keepIn K (.ref d__law_take) = true)
    (a__law_some : PySem.W.nsIn K mainGlobals "_law_some" = some (some (.ref d__law_some)))
    (l__law_some : K.lookup d__law_some = some ⟨oc__law_some, od__law_some, .func (PySem.W.fnOf "_law_some" "_law_some" (defArgs s__law_some) (defBody s__law_some) (defScope s__law_some) .none kV__law_some dc__law_some pm__law_some an__law_some cd__law_some ct__law_some), sl__law_some⟩)
    (c__law_some : PySem.W.codeIn K cd__law_some "_law_some" = true)
    (k__law_some : PySem.W.keepIn K (.ref d__law_some) = true)
    (a__law_alike : PySem.W.nsIn K mainGlobals "_law_alike" = some (some (.ref d__law_alike)))
    (l__law_alike : K.lookup d__law_alike = some ⟨oc__law_alike, od__law_alike, .func (PySem.W.fnOf "_law_alike" "_law_alike" (defArgs s__law_alike) (defBody s__law_alike) (defScope s__law_alike) .none kV__law_alike dc__law_alike pm__law_alike an__law_alike cd__law_alike ct__law_alike), sl__law_alike⟩)
    (c__law_alike : PySem.W.codeIn K cd__law_alike "_law_alike" = true)
    (k__law_alike : PySem.W.keepIn K (.ref d__law_alike) = true)
    (a__law_gcd : PySem.W.nsIn K mainGlobals "_law_gcd" = some (some (.ref d__law_gcd)))
    (l__law_gcd : K.lookup d__law_gcd = some ⟨oc__law_gcd, od__law_gcd, .func (PySem.W.fnOf "_law_gcd" "_law_gcd" (defArgs s__law_gcd) (defBody s__law_gcd) (defScope s__law_gcd) .none kV__law_gcd dc__law_gcd pm__law_gcd an__law_gcd cd__law_gcd ct__law_gcd), sl__law_gcd⟩)
    (c__law_gcd : PySem.W.codeIn K cd__law_gcd "_law_gcd" = true)
    (k__law_gcd : PySem.W.keepIn K (.ref d__law_gcd) = true)
    (a__law_cross : PySem.W.nsIn K mainGlobals "_law_cross" = some (some (.ref d__law_cross)))
    (l__law_cross : K.lookup d__law_cross = some ⟨oc__law_cross, od__law_cross, .func (PySem.W.fnOf "_law_cross" "_law_cross" (defArgs s__law_cross) (defBody s__law_cross) (defScope s__law_cross) .none kV__law_cross dc__law_cross pm__law_cross an__law_cross cd__law_cross ct__law_cross), sl__law_cross⟩)
    (c__law_cross : PySem.W.codeIn K cd__law_cross "_law_cross" = true)
    (k__law_cross : PySem.W.keepIn K (.ref d__law_cross) = true)
    (a__law_hull : PySem.W.nsIn K mainGlobals "_law_hull" = some (some (.ref d__law_hull)))
    (l__law_hull : K.lookup d__law_hull = some ⟨oc__law_hull, od__law_hull, .func (PySem.W.fnOf "_law_hull" "_law_hull" (defArgs s__law_hull) (defBody s__law_hull) (defScope s__law_hull) .none kV__law_hull dc__law_hull pm__law_hull an__law_hull cd__law_hull ct__law_hull), sl__law_hull⟩)
    (c__law_hull : PySem.W.codeIn K cd__law_hull "_law_hull" = true)
    (k__law_hull : PySem.W.keepIn K (.ref d__law_hull) = true)
    (a__law_part : PySem.W.nsIn K mainGlobals "_law_part" = some (some (.ref d__law_part)))
    (l__law_part : K.lookup d__law_part = some ⟨oc__law_part, od__law_part, .func (PySem.W.fnOf "_law_part" "_law_part" (defArgs s__law_part) (defBody s__law_part) (defScope s__law_part) .none kV__law_part dc__law_part pm__law_part an__law_part cd__law_part ct__law_part), sl__law_part⟩)
    (c__law_part : PySem.W.codeIn K cd__law_part "_law_part" = true)
    (k__law_part : PySem.W.keepIn K (.ref d__law_part) = true)
    (a_law : PySem.W.nsIn K mainGlobals "law" = some (some (.ref d_law)))
    (l_law : K.lookup d_law = some ⟨oc_law, od_law, .func (PySem.W.fnOf "law" "law" (defArgs s_law) (defBody s_law) (defScope s_law) .none kV_law dc_law pm_law an_law (.ref d_c_law) ct_law), sl_law⟩)
    (c_law : PySem.W.codeIn K (.ref d_c_law) "law" = true)
    (k_law : PySem.W.keepIn K (.ref d_law) = true)
    (a__law_raised : PySem.W.nsIn K mainGlobals "_law_raised" = some (some (.ref d__law_raised)))
    (l__law_raised : K.lookup d__law_raised = some ⟨oc__law_raised, od__law_raised, .func (PySem.W.fnOf "_law_raised" "_law_raised" (defArgs s__law_raised) (defBody s__law_raised) (defScope s__law_raised) .none kV__law_raised dc__law_raised pm__law_raised an__law_raised cd__law_raised ct__law_raised), sl__law_raised⟩)
    (c__law_raised : PySem.W.codeIn K cd__law_raised "_law_raised" = true)
    (k__law_raised : PySem.W.keepIn K (.ref d__law_raised) = true)
    (e_Nothing : excB K d_Nothing = true)
    (t_Nothing_Nothing : PySem.W.exmOne K (.ref d_Nothing) (.ref d_Nothing) = some true)
    (t_Nothing_BadPart : PySem.W.exmOne K (.ref d_BadPart) (.ref d_Nothing) = some false)
    (t_Nothing_TooLarge : PySem.W.exmOne K (.ref xa_TooLarge) (.ref d_Nothing) = some false)
    (t_BadPart_BadPart : PySem.W.exmOne K (.ref d_BadPart) (.ref d_BadPart) = some true)
    (t_BadPart_Nothing : PySem.W.exmOne K (.ref d_Nothing) (.ref d_BadPart) = some false)
    (t_BadPart_TooLarge : PySem.W.exmOne K (.ref xa_TooLarge) (.ref d_BadPart) = some false)
    (b_BadPart : xfB K d_BadPart = true)
    (hg_BadPart_fault : PySem.W.findIn K (.ref d_BadPart) "fault" = some none)
    (hg_BadPart_number : PySem.W.findIn K (.ref d_BadPart) "number" = some none)
    (x_BadPart : ∀ base, Exc2 l.prog w K mg base 1 "BadPart" "number" "fault")
    (x_TooLarge : ∀ base, Exc2 l.prog w K mg base 1 "TooLarge" "what" "limit")
    (hc : PySem.W.codeHdIn K d_c_law d_tab = true) (hP : h.get? d_tab = some (tblO #[])) (nP : K.lookup d_tab = none) : LawAtG l w K 10 63 "script" mg fa h :=
  law_at (ad := ⟨d_is_number, d_is_sized, d_is_couple, d_is_tuple_of, d_is_corners, d_turn_of, d_chain, d_hull_of, d_is_hull, d_checked_part, d_sides_of, d_double_area, d_is_within, d_shifted, d_frame_of, d_first_on_left, d_far_along, d__law_bag, d__law_take, d__law_some, d__law_alike, d__law_gcd, d__law_cross, d__law_hull, d__law_part, d_law, d__law_raised, d_Nothing, d_BadPart, d_c_law, d_tab⟩) X G hfa g_Nothing g_BadPart g_TooLarge z_abs z_all z_bool z_enumerate z_int z_isinstance z_len z_list z_max z_min z_range z_repr z_set z_sorted z_sum z_tuple z_zip m_MOST_CORNERS m_MOST_FAR a_is_number l_is_number c_is_number k_is_number a_is_sized l_is_sized c_is_sized k_is_sized a_is_couple l_is_couple c_is_couple k_is_couple a_is_tuple_of l_is_tuple_of c_is_tuple_of k_is_tuple_of a_is_corners l_is_corners c_is_corners k_is_corners a_turn_of l_turn_of c_turn_of k_turn_of a_chain l_chain c_chain k_chain a_hull_of l_hull_of c_hull_of k_hull_of a_is_hull l_is_hull c_is_hull k_is_hull a_checked_part l_checked_part c_checked_part k_checked_part a_sides_of l_sides_of c_sides_of k_sides_of a_double_area l_double_area c_double_area k_double_area a_is_within l_is_within c_is_within k_is_within a_shifted l_shifted c_shifted k_shifted a_frame_of l_frame_of c_frame_of k_frame_of a_first_on_left l_first_on_left c_first_on_left k_first_on_left a_far_along l_far_along c_far_along k_far_along a__law_bag l__law_bag c__law_bag k__law_bag a__law_take l__law_take c__law_take k__law_take a__law_some l__law_some c__law_some k__law_some a__law_alike l__law_alike c__law_alike k__law_alike a__law_gcd l__law_gcd c__law_gcd k__law_gcd a__law_cross l__law_cross c__law_cross k__law_cross a__law_hull l__law_hull c__law_hull k__law_hull a__law_part l__law_part c__law_part k__law_part a_law l_law c_law k_law a__law_raised l__law_raised c__law_raised k__law_raised e_Nothing t_Nothing_Nothing t_Nothing_BadPart t_Nothing_TooLarge t_BadPart_BadPart t_BadPart_Nothing t_BadPart_TooLarge b_BadPart hg_BadPart_fault hg_BadPart_number x_BadPart x_TooLarge hc hP nP
end K02
open PySem PySem.W PyProof.Rows
set_option maxRecDepth 100000 in
set_option pp.maxSteps 60 in
set_option maxHeartbeats 0 in
theorem PySem.Challenge.cw_gripsure_k02_sides_areas_and_points_with_holds : PySem.Challenge.rw_gripsure_k02_sides_areas_and_points_with.Holds := by
  w_on; o_law; k_head; (case hw => w_witness2)
  k_fill
  refine DL.walk_ofG (l := PySem.Challenge.rw_gripsure_k02_sides_areas_and_points_with) (n := 63) (k := 10) (x := "script") rfl (by decide) rfl ⟨rfl, by decide, by decide⟩ (fun w h Y => PySem.W.km_in_of Y) ?F
  case F =>
    intro w mg fa h Y KX G hmg
    have hT := PySem.W.km_tabs_of Y
    refine' K02.law_at2 KX G hmg ?g_Nothing ?g_BadPart ?g_TooLarge ?z_abs ?z_all ?z_bool ?z_enumerate ?z_int ?z_isinstance ?z_len ?z_list ?z_max ?z_min ?z_range ?z_repr ?z_set ?z_sorted ?z_sum ?z_tuple ?z_zip ?m_MOST_CORNERS ?m_MOST_FAR ?a_is_number ?l_is_number ?c_is_number ?k_is_number ?a_is_sized ?l_is_sized ?c_is_sized ?k_is_sized ?a_is_couple ?l_is_couple ?c_is_couple ?k_is_couple ?a_is_tuple_of ?l_is_tuple_of ?c_is_tuple_of ?k_is_tuple_of ?a_is_corners ?l_is_corners ?c_is_corners ?k_is_corners ?a_turn_of ?l_turn_of ?c_turn_of ?k_turn_of ?a_chain ?l_chain ?c_chain ?k_chain ?a_hull_of ?l_hull_of ?c_hull_of ?k_hull_of ?a_is_hull ?l_is_hull ?c_is_hull ?k_is_hull ?a_checked_part ?l_checked_part ?c_checked_part ?k_checked_part ?a_sides_of ?l_sides_of ?c_sides_of ?k_sides_of ?a_double_area ?l_double_area ?c_double_area ?k_double_area ?a_is_within ?l_is_within ?c_is_within ?k_is_within ?a_shifted ?l_shifted ?c_shifted ?k_shifted ?a_frame_of ?l_frame_of ?c_frame_of ?k_frame_of ?a_first_on_left ?l_first_on_left ?c_first_on_left ?k_first_on_left ?a_far_along ?l_far_along ?c_far_along ?k_far_along ?a__law_bag ?l__law_bag ?c__law_bag ?k__law_bag ?a__law_take ?l__law_take ?c__law_take ?k__law_take ?a__law_some ?l__law_some ?c__law_some ?k__law_some ?a__law_alike ?l__law_alike ?c__law_alike ?k__law_alike ?a__law_gcd ?l__law_gcd ?c__law_gcd ?k__law_gcd ?a__law_cross ?l__law_cross ?c__law_cross ?k__law_cross ?a__law_hull ?l__law_hull ?c__law_hull ?k__law_hull ?a__law_part ?l__law_part ?c__law_part ?k__law_part ?a_law ?l_law ?c_law ?k_law ?a__law_raised ?l__law_raised ?c__law_raised ?k__law_raised ?e_Nothing ?t_Nothing_Nothing ?t_Nothing_BadPart ?t_Nothing_TooLarge ?t_BadPart_BadPart ?t_BadPart_Nothing ?t_BadPart_TooLarge ?b_BadPart ?hg_BadPart_fault ?hg_BadPart_number ?x_BadPart ?x_TooLarge ?codeTab (hT _ List.mem_cons_self) ?noTab
    (case g_Nothing => k_is)
    (case g_BadPart => k_is)
    (case g_TooLarge => k_is)
    (case z_abs => k_is)
    (case z_all => k_is)
    (case z_bool => k_is)
    (case z_enumerate => k_is)
    (case z_int => k_is)
    (case z_isinstance => k_is)
    (case z_len => k_is)
    (case z_list => k_is)
    (case z_max => k_is)
    (case z_min => k_is)
    (case z_range => k_is)
    (case z_repr => k_is)
    (case z_set => k_is)
    (case z_sorted => k_is)
    (case z_sum => k_is)
    (case z_tuple => k_is)
    (case z_zip => k_is)
    (case m_MOST_CORNERS => k_is)
    (case m_MOST_FAR => k_is)
    (case a_is_number => k_is)
    (case l_is_number => k_is)
    (case c_is_number => k_is)
    (case k_is_number => k_is)
    (case a_is_sized => k_is)
    (case l_is_sized => k_is)
    (case c_is_sized => k_is)
    (case k_is_sized => k_is)
    (case a_is_couple => k_is)
    (case l_is_couple => k_is)
    (case c_is_couple => k_is)
    (case k_is_couple => k_is)
    (case a_is_tuple_of => k_is)
    (case l_is_tuple_of => k_is)
    (case c_is_tuple_of => k_is)
    (case k_is_tuple_of => k_is)
    (case a_is_corners => k_is)
    (case l_is_corners => k_is)
    (case c_is_corners => k_is)
    (case k_is_corners => k_is)
    (case a_turn_of => k_is)
    (case l_turn_of => k_is)
    (case c_turn_of => k_is)
    (case k_turn_of => k_is)
    (case a_chain => k_is)
    (case l_chain => k_is)
    (case c_chain => k_is)
    (case k_chain => k_is)
    (case a_hull_of => k_is)
    (case l_hull_of => k_is)
    (case c_hull_of => k_is)
    (case k_hull_of => k_is)
    (case a_is_hull => k_is)
    (case l_is_hull => k_is)
    (case c_is_hull => k_is)
    (case k_is_hull => k_is)
    (case a_checked_part => k_is)
    (case l_checked_part => k_is)
    (case c_checked_part => k_is)
    (case k_checked_part => k_is)
    (case a_sides_of => k_is)
    (case l_sides_of => k_is)
    (case c_sides_of => k_is)
    (case k_sides_of => k_is)
    (case a_double_area => k_is)
    (case l_double_area => k_is)
    (case c_double_area => k_is)
    (case k_double_area => k_is)
    (case a_is_within => k_is)
    (case l_is_within => k_is)
    (case c_is_within => k_is)
    (case k_is_within => k_is)
    (case a_shifted => k_is)
    (case l_shifted => k_is)
    (case c_shifted => k_is)
    (case k_shifted => k_is)
    (case a_frame_of => k_is)
    (case l_frame_of => k_is)
    (case c_frame_of => k_is)
    (case k_frame_of => k_is)
    (case a_first_on_left => k_is)
    (case l_first_on_left => k_is)
    (case c_first_on_left => k_is)
    (case k_first_on_left => k_is)
    (case a_far_along => k_is)
    (case l_far_along => k_is)
    (case c_far_along => k_is)
    (case k_far_along => k_is)
    (case a__law_bag => k_is)
    (case l__law_bag => k_is)
    (case c__law_bag => k_is)
    (case k__law_bag => k_is)
    (case a__law_take => k_is)
    (case l__law_take => k_is)
    (case c__law_take => k_is)
    (case k__law_take => k_is)
    (case a__law_some => k_is)
    (case l__law_some => k_is)
    (case c__law_some => k_is)
    (case k__law_some => k_is)
    (case a__law_alike => k_is)
    (case l__law_alike => k_is)
    (case c__law_alike => k_is)
    (case k__law_alike => k_is)
    (case a__law_gcd => k_is)
    (case l__law_gcd => k_is)
    (case c__law_gcd => k_is)
    (case k__law_gcd => k_is)
    (case a__law_cross => k_is)
    (case l__law_cross => k_is)
    (case c__law_cross => k_is)
    (case k__law_cross => k_is)
    (case a__law_hull => k_is)
    (case l__law_hull => k_is)
    (case c__law_hull => k_is)
    (case k__law_hull => k_is)
    (case a__law_part => k_is)
    (case l__law_part => k_is)
    (case c__law_part => k_is)
    (case k__law_part => k_is)
    (case a_law => k_is)
    (case l_law => k_is)
    (case c_law => k_is)
    (case k_law => k_is)
    (case a__law_raised => k_is)
    (case l__law_raised => k_is)
    (case c__law_raised => k_is)
    (case k__law_raised => k_is)
    (case e_Nothing => kernel_rfl)
    (case t_Nothing_Nothing => kernel_rfl)
    (case t_Nothing_BadPart => kernel_rfl)
    (case t_Nothing_TooLarge => kernel_rfl)
    (case t_BadPart_BadPart => kernel_rfl)
    (case t_BadPart_Nothing => kernel_rfl)
    (case t_BadPart_TooLarge => kernel_rfl)
    (case b_BadPart => kernel_rfl)
    (case hg_BadPart_fault => k_is)
    (case hg_BadPart_number => k_is)
    (case noTab => kernel_rfl)
    (case codeTab => kernel_rfl)
    (case x_BadPart =>
      intro base
      refine' DL.exc2_mi (l := PySem.Challenge.rw_gripsure_k02_sides_areas_and_points_with) KX G ?a ?i0 ?lk ?lC ?lc ?i ?hcd ?r ?ob ?fl ?sb ?tp ?z ?S ?hpar ?hself ⟨by decide, by decide⟩ ⟨by decide, by decide⟩ ?w0 ?w1 ?w2 ?ev ?hb
      (case a => k_is); (case i0 => k_is); (case lk => k_is); (case lC => k_is); (case lc => k_is)
      (case i => kernel_rfl); (case hcd => k_is); (case r => decide +kernel); (case ob => kernel_rfl); (case fl => kernel_rfl); (case sb => kernel_rfl); (case tp => kernel_rfl); (case z => k_is)
      (case S => exact ⟨rfl, rfl, rfl, by decide, rfl, by decide +kernel, by decide +kernel, DL.free_mk (by decide +kernel), rfl, rfl⟩)
      (case hpar => rfl); (case hself => rfl); (case w0 => exact fun _ => rfl); (case w1 => exact fun _ => rfl); (case w2 => exact fun _ => rfl); (case ev => intro env; rfl)
      (case hb => exact fun us hl => match us, hl with | [_, _, _], _ => rfl))
    (case x_TooLarge =>
      intro base
      refine' DL.exc2_mi (l := PySem.Challenge.rw_gripsure_k02_sides_areas_and_points_with) KX G ?a ?i0 ?lk ?lC ?lc ?i ?hcd ?r ?ob ?fl ?sb ?tp ?z ?S ?hpar ?hself ⟨by decide, by decide⟩ ⟨by decide, by decide⟩ ?w0 ?w1 ?w2 ?ev ?hb
      (case a => k_is); (case i0 => k_is); (case lk => k_is); (case lC => k_is); (case lc => k_is)
      (case i => kernel_rfl); (case hcd => k_is); (case r => decide +kernel); (case ob => kernel_rfl); (case fl => kernel_rfl); (case sb => kernel_rfl); (case tp => kernel_rfl); (case z => k_is)
      (case S => exact ⟨rfl, rfl, rfl, by decide, rfl, by decide +kernel, by decide +kernel, DL.free_mk (by decide +kernel), rfl, rfl⟩)
      (case hpar => rfl); (case hself => rfl); (case w0 => exact fun _ => rfl); (case w1 => exact fun _ => rfl); (case w2 => exact fun _ => rfl); (case ev => intro env; rfl)
      (case hb => exact fun us hl => match us, hl with | [_, _, _], _ => rfl))
