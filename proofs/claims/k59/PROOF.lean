import PyProof.Rows.All
import Wide.All
import OpenK.AllK
import Wide.FinOn
import HandS.ForMost
import HandS.ForExc
import HandS.IsInst
import HandS.DictComp
import HandS.Conv
import HandS.Flow
import HandS.More
import HandS.Walk
import HandS.SortInts
import HandS.TupAny
import HandS.Style
import HandS.RevTup
import HandS.TupLen
import HandS.RaiseMore
import KE.SortData
import PyProof.ReprRoads
import HandS.Zip
import HandS.TupSets
import HandS.Strs
import HandS.SetFor
import HandS.Zip0
import PyProof.EnumMake
import HandS.TryOnly
import HandS.TupMul
import KE.KDictPairs
import KE.KDictZip
import PySem.Challenge.RW_claimroots_k59_whole_stores_judged
set_option Elab.async false
set_option linter.all false
set_option maxRecDepth 100000
set_option maxHeartbeats 4000000
/-! A layer of data: what a def makes of plain values, as a function of plain values. -/
namespace Zd
open PySem L2

def keyD : Key → PyData
  | .inl i => .int i
  | .inr x => .str x

/-- a key: an int, a text, a tuple of these -/
abbrev GK := Key ⊕ List Key
def keyG : GK → PyData
  | .inl k => keyD k
  | .inr ks => .tuple (ks.map keyD)
/-- o is a dict with these keys -/
def HOd (o : HO) (ks : List (GK × V)) : Prop :=
  (∃ ls : List (Key × V), o = .dK ls ∧ ks = ls.map fun p => (.inl p.1, p.2)) ∨ ∃ ls : List (List Key × V), o = .dT ls ∧ ls ≠ [] ∧ (∀ p ∈ ls, p.1.length ≤ sizeLine) ∧ ks = ls.map fun p => (.inr p.1, p.2)
/-- a dict that is read -/
def RDct (H : Hp) (a : Addr) (ks : List (GK × V)) : Prop := ∃ o, L2.Rd H a o ∧ HOd o ks
def HDct (H : Hp) (a : Addr) (ks : List (GK × V)) : Prop := ∃ o, H a = some o ∧ HOd o ks

mutual
/-- v is the data d in H, none of its lists and dicts in A -/
inductive Dv (K : PySem.W.Frag) (H : Hp) (A : Addr → Prop) : V → PyData → Prop
  | non : Dv K H A .non .none
  | bl (b : Bool) : Dv K H A (.bl b) (.bool b)
  | int (i : Int) : Dv K H A (.int i) (.int i)
  | str (x : Str) : Dv K H A (.str x) (.str x)
  | lst {a : Addr} {xs : List V} {ds : List PyData} : H a = some (.lst xs) → ¬ A a → xs.length ≤ sizeLine → Dvs K H A xs ds → Dv K H A (.ref a) (.list ds)
  | tup {a : Addr} {xs : List V} {ds : List PyData} : H a = some (.tup xs) → xs.length ≤ sizeLine → Dvs K H A xs ds → Dv K H A (.ref a) (.tuple ds)
  | dct {a : Addr} {ks : List (GK × V)} {kvs : List (PyData × PyData)} : RDct H a ks → ¬ A a → Dvk K H A ks kvs → Dv K H A (.ref a) (.dict kvs)
inductive Dvs (K : PySem.W.Frag) (H : Hp) (A : Addr → Prop) : List V → List PyData → Prop
  | nil : Dvs K H A [] []
  | cons {v : V} {vs : List V} {d : PyData} {ds : List PyData} : Dv K H A v d → Dvs K H A vs ds → Dvs K H A (v :: vs) (d :: ds)
inductive Dvk (K : PySem.W.Frag) (H : Hp) (A : Addr → Prop) : List (GK × V) → List (PyData × PyData) → Prop
  | nil : Dvk K H A [] []
  | cons {k : GK} {v : V} {ks : List (GK × V)} {d : PyData} {kvs : List (PyData × PyData)} : Dv K H A v d → Dvk K H A ks kvs → Dvk K H A ((k, v) :: ks) ((keyG k, d) :: kvs)
end

/-- tuples never change -/
def Tups (H H' : Hp) : Prop := ∀ a xs, H a = some (.tup xs) → H' a = some (.tup xs)
section
variable {K : PySem.W.Frag} {H H' : Hp} {A A' : Addr → Prop}
theorem RDct.step {a : Addr} {ks : List (GK × V)} (h : ∀ o, H a = some o → H' a = some o) (x : RDct H a ks) : RDct H' a ks := by
  obtain ⟨o, r, q⟩ := x
  rcases r with r | ⟨u, r⟩
  · exact ⟨o, .inl (h _ r), q⟩
  · exact ⟨o, .inr ⟨u, h _ r⟩, q⟩
theorem RDct.some {a : Addr} {ks : List (GK × V)} (x : RDct H a ks) : ∃ o, H a = some o := by
  obtain ⟨o, r, q⟩ := x
  rcases r with r | ⟨u, r⟩
  · exact ⟨_, r⟩
  · exact ⟨_, r⟩
theorem HDct.rd {a : Addr} {ks : List (GK × V)} (x : HDct H a ks) : RDct H a ks := let ⟨o, h, q⟩ := x; ⟨o, .inl h, q⟩
theorem HDct.ne {a : Addr} {ks : List (GK × V)} (x : HDct H a ks) : ∀ xs, H a ≠ some (.tup xs) := fun xs e => by
  obtain ⟨o, h, q⟩ := x
  rw [h] at e
  cases e
  rcases q with ⟨ls, e, _⟩ | ⟨ls, e, _⟩ <;> cases e
theorem HDct.nefrz {a : Addr} {ks : List (GK × V)} (x : HDct H a ks) : ∀ o u, H a ≠ some (.frz o u) := fun o u e => by
  obtain ⟨o, h, q⟩ := x
  rw [h] at e
  cases e
  rcases q with ⟨ls, e, _⟩ | ⟨ls, e, _⟩ <;> cases e
mutual
theorem Dv.step (h : ∀ a o, H a = some o → ¬ A a → H' a = some o ∧ ¬ A' a) (ht : Tups H H') : ∀ {v : V} {d : PyData}, Dv K H A v d → Dv K H' A' v d
  | _, _, .non => .non
  | _, _, .bl b => .bl b
  | _, _, .int i => .int i
  | _, _, .str x => .str x
  | _, _, .lst e n z q => .lst (h _ _ e n).1 (h _ _ e n).2 z (Dvs.step h ht q)
  | _, _, .tup e z q => .tup (ht _ _ e) z (Dvs.step h ht q)
  | _, _, .dct e n q => .dct (e.step fun o w => (h _ o w n).1) (let ⟨o, w⟩ := e.some; (h _ o w n).2) (Dvk.step h ht q)
theorem Dvs.step (h : ∀ a o, H a = some o → ¬ A a → H' a = some o ∧ ¬ A' a) (ht : Tups H H') : ∀ {vs : List V} {ds : List PyData}, Dvs K H A vs ds → Dvs K H' A' vs ds
  | _, _, .nil => .nil
  | _, _, .cons a b => .cons (Dv.step h ht a) (Dvs.step h ht b)
theorem Dvk.step (h : ∀ a o, H a = some o → ¬ A a → H' a = some o ∧ ¬ A' a) (ht : Tups H H') : ∀ {ks : List (GK × V)} {kvs : List (PyData × PyData)}, Dvk K H A ks kvs → Dvk K H' A' ks kvs
  | _, _, .nil => .nil
  | _, _, .cons a b => .cons (Dv.step h ht a) (Dvk.step h ht b)
end
/-! a dict is locked, or no more -/
mutual
theorem Dv.flip {p : Addr} {y : HO} (hp : ∀ xs, H p ≠ some (.lst xs) ∧ H p ≠ some (.tup xs)) (hy : ∀ o ks, L2.Rd H p o → HOd o ks → L2.Rd (upd H p y) p o) : ∀ {v : V} {d : PyData}, Dv K H A v d → Dv K (upd H p y) A v d
  | _, _, .non => .non
  | _, _, .bl b => .bl b
  | _, _, .int i => .int i
  | _, _, .str x => .str x
  | _, _, .lst (a := a) e n z q => .lst (by rw [upd_ne fun w : a = p => (hp _).1 (w ▸ e)]; exact e) n z (Dvs.flip hp hy q)
  | _, _, .tup (a := a) e z q => .tup (by rw [upd_ne fun w : a = p => (hp _).2 (w ▸ e)]; exact e) z (Dvs.flip hp hy q)
  | _, _, .dct (a := a) e n q => .dct (let ⟨o, r, w⟩ := e
      if c : a = p then ⟨o, by subst c; exact hy o _ r w, w⟩ else ⟨o, by
        rcases r with r | ⟨u, r⟩
        · exact .inl (by rw [upd_ne c]; exact r)
        · exact .inr ⟨u, by rw [upd_ne c]; exact r⟩, w⟩) n (Dvk.flip hp hy q)
theorem Dvs.flip {p : Addr} {y : HO} (hp : ∀ xs, H p ≠ some (.lst xs) ∧ H p ≠ some (.tup xs)) (hy : ∀ o ks, L2.Rd H p o → HOd o ks → L2.Rd (upd H p y) p o) : ∀ {vs : List V} {ds : List PyData}, Dvs K H A vs ds → Dvs K (upd H p y) A vs ds
  | _, _, .nil => .nil
  | _, _, .cons a b => .cons (Dv.flip hp hy a) (Dvs.flip hp hy b)
theorem Dvk.flip {p : Addr} {y : HO} (hp : ∀ xs, H p ≠ some (.lst xs) ∧ H p ≠ some (.tup xs)) (hy : ∀ o ks, L2.Rd H p o → HOd o ks → L2.Rd (upd H p y) p o) : ∀ {ks : List (GK × V)} {kvs : List (PyData × PyData)}, Dvk K H A ks kvs → Dvk K (upd H p y) A ks kvs
  | _, _, .nil => .nil
  | _, _, .cons a b => .cons (Dv.flip hp hy a) (Dvk.flip hp hy b)
end
end

/-! ### lists of data, views -/
theorem Dvs.length {K : PySem.W.Frag} {H : Hp} {A : Addr → Prop} : ∀ {vs : List V} {ds : List PyData}, Dvs K H A vs ds → vs.length = ds.length
  | _, _, .nil => rfl
  | _, _, .cons _ b => congrArg (· + 1) (Dvs.length b)
theorem Dvs.get {K : PySem.W.Frag} {H : Hp} {A : Addr → Prop} : ∀ {vs : List V} {ds : List PyData} {i : Nat} {d : PyData}, Dvs K H A vs ds → ds[i]? = some d → ∃ v, vs[i]? = some v ∧ Dv K H A v d
  | _, _, _, _, .nil, e => by simp at e
  | _, _, 0, _, .cons a _, e => by simp at e; subst e; exact ⟨_, rfl, a⟩
  | _, _, i + 1, d, .cons _ b, e => by
    obtain ⟨v, h1, h2⟩ := Dvs.get (i := i) (d := d) b (by simpa using e)
    exact ⟨v, by simpa using h1, h2⟩
theorem Dvs.get' {K : PySem.W.Frag} {H : Hp} {A : Addr → Prop} : ∀ {vs : List V} {ds : List PyData} {i : Nat} {v : V}, Dvs K H A vs ds → vs[i]? = some v → ∃ d, ds[i]? = some d ∧ Dv K H A v d
  | _, _, _, _, .nil, e => by simp at e
  | _, _, 0, _, .cons a _, e => by simp at e; subst e; exact ⟨_, rfl, a⟩
  | _, _, i + 1, d, .cons _ b, e => by
    obtain ⟨v, h1, h2⟩ := Dvs.get' (i := i) (v := d) b (by simpa using e)
    exact ⟨v, by simpa using h1, h2⟩
theorem Dvs.append {K : PySem.W.Frag} {H : Hp} {A : Addr → Prop} : ∀ {vs ws : List V} {ds es : List PyData}, Dvs K H A vs ds → Dvs K H A ws es → Dvs K H A (vs ++ ws) (ds ++ es)
  | _, _, _, _, .nil, h => h
  | _, _, _, _, .cons a b, h => .cons a (Dvs.append b h)
theorem Dvs.take {K : PySem.W.Frag} {H : Hp} {A : Addr → Prop} : ∀ {vs : List V} {ds : List PyData} (n : Nat), Dvs K H A vs ds → Dvs K H A (vs.take n) (ds.take n)
  | _, _, 0, _ => .nil
  | _, _, _ + 1, .nil => .nil
  | _, _, n + 1, .cons a b => .cons a (Dvs.take n b)
theorem Dvs.drop {K : PySem.W.Frag} {H : Hp} {A : Addr → Prop} : ∀ {vs : List V} {ds : List PyData} (n : Nat), Dvs K H A vs ds → Dvs K H A (vs.drop n) (ds.drop n)
  | _, _, 0, h => h
  | _, _, _ + 1, .nil => .nil
  | _, _, n + 1, .cons _ b => Dvs.drop n b
theorem Dvs.snoc {K : PySem.W.Frag} {H : Hp} {A : Addr → Prop} {vs : List V} {ds : List PyData} {v : V} {d : PyData} (h : Dvs K H A vs ds) (a : Dv K H A v d) : Dvs K H A (vs ++ [v]) (ds ++ [d]) := h.append (.cons a .nil)
theorem Dvs.dropLast {K : PySem.W.Frag} {H : Hp} {A : Addr → Prop} : ∀ {vs : List V} {ds : List PyData}, Dvs K H A vs ds → Dvs K H A vs.dropLast ds.dropLast
  | _, _, .nil => .nil
  | _, _, .cons _ .nil => .nil
  | _, _, .cons a (.cons b c) => .cons a (Dvs.dropLast (.cons b c))
theorem Dvs.ints {K : PySem.W.Frag} {H : Hp} {A : Addr → Prop} : ∀ ns : List Int, Dvs K H A (ns.map V.int) (ns.map PyData.int)
  | [] => .nil
  | n :: r => .cons (.int n) (Dvs.ints r)
theorem Dvs.of_ints {K : PySem.W.Frag} {H : Hp} {A : Addr → Prop} : ∀ {ns : List Int} {vs : List V}, Dvs K H A vs (ns.map PyData.int) → vs = ns.map V.int
  | [], _, .nil => rfl
  | n :: r, _, .cons (.int _) b => by rw [Dvs.of_ints (ns := r) b] <;> rfl
theorem Dvs.of_strs {K : PySem.W.Frag} {H : Hp} {A : Addr → Prop} : ∀ {ns : List Str} {vs : List V}, Dvs K H A vs (ns.map PyData.str) → vs = ns.map V.str
  | [], _, .nil => rfl
  | n :: r, _, .cons (.str _) b => by rw [Dvs.of_strs (ns := r) b] <;> rfl
theorem Dvs.of_bools {K : PySem.W.Frag} {H : Hp} {A : Addr → Prop} : ∀ {ns : List Bool} {vs : List V}, Dvs K H A vs (ns.map PyData.bool) → vs = ns.map V.bl
  | [], _, .nil => rfl
  | n :: r, _, .cons (.bl _) b => by rw [Dvs.of_bools (ns := r) b] <;> rfl

/-! ### the law's draws -/
structure Rng where
  gs : List Int
  cs : List Int
  r : Int
  t : Int
/-- the draws' objects: the state, its great cells, its cells -/
abbrev Amb := Option (Addr × Addr × Addr)
def efs : Amb → Addr → Prop
  | none, _ => False
  | some (s, g, c), a => a = s ∨ a = g ∨ a = c
def RngAt (H : Hp) (s g c : Addr) (G : Rng) : Prop :=
  H s = some (.dK [(.inr "great", .ref g), (.inr "cells", .ref c), (.inr "rest", .int G.r), (.inr "turn", .int G.t)]) ∧ H g = some (.lst (G.gs.map V.int)) ∧ H c = some (.lst (G.cs.map V.int)) ∧ g ≠ c ∧ G.gs.length ≤ 1000 ∧ G.cs.length ≤ 1000
def JR : Amb → Rng → Hp → Prop
  | none, _, _ => True
  | some (s, g, c), G, H => RngAt H s g c G
def Kept (H H' : Hp) : Prop := ∀ a o, H a = some o → H' a = some o
/-- all but the draws' objects is kept -/
structure Ext (B : Amb) (H H' : Hp) : Prop where
  keep : ∀ a o, H a = some o → ¬ efs B a → H' a = some o
  trk : ∀ a, H a ≠ none → H' a ≠ none
  tup : Tups H H'
theorem Kept.refl (H : Hp) : Kept H H := fun _ _ h => h
theorem Kept.trans {H H1 H2 : Hp} (a : Kept H H1) (b : Kept H1 H2) : Kept H H2 := fun x o h => b x o (a x o h)
theorem Kept.new {H : Hp} {p : Addr} {o : HO} (h : H p = none) : Kept H (upd H p o) := fun a u e => by
  rw [upd_ne (ne_of_none e h)]
  exact e
theorem Kept.trk {H H' : Hp} (k : Kept H H') : ∀ a, H a ≠ none → H' a ≠ none := fun a h => by
  cases e : H a with
  | none => exact absurd e h
  | some o => rw [k a o e]; simp
theorem Kept.ext {B : Amb} {H H' : Hp} (k : Kept H H') : Ext B H H' := ⟨fun a o e _ => k a o e, k.trk, fun a xs e => k a _ e⟩
theorem Kept.jr {B : Amb} {G : Rng} {H H' : Hp} (k : Kept H H') (j : JR B G H) : JR B G H' := by
  cases B with
  | none => trivial
  | some x =>
    obtain ⟨s, g, c⟩ := x
    obtain ⟨h1, h2, h3, h4⟩ := j
    exact ⟨k _ _ h1, k _ _ h2, k _ _ h3, h4⟩
theorem Ext.refl (B : Amb) (H : Hp) : Ext B H H := (Kept.refl H).ext
theorem Ext.trans {B : Amb} {H H1 H2 : Hp} (a : Ext B H H1) (b : Ext B H1 H2) : Ext B H H2 := ⟨fun x o h n => b.keep x o (a.keep x o h n) n, fun x h => b.trk x (a.trk x h), fun x xs h => b.tup x xs (a.tup x xs h)⟩
theorem Ext.free {B : Amb} {H H' : Hp} (e : Ext B H H') {p : Addr} (h : H' p = none) : H p = none := by
  cases q : H p with
  | none => rfl
  | some o => exact absurd h (e.trk p (by rw [q]; simp))

/-! ### what a slot holds -/
inductive EV where
  /-- plain data, never changed again -/
  | d (x : PyData)
  /-- a list or dict that this slot alone holds -/
  | own (x : PyData)
  /-- the same, locked: it is looked at only -/
  | lk (f : Bool) (x : PyData)
  /-- the law's state -/
  | st
  /-- the script -/
  | scr (ns : List Int)
abbrev Evn := List (Option EV)
def OwnAt (K : PySem.W.Frag) (H : Hp) (A : Addr → Prop) (p : Addr) : PyData → Prop
  | .list ds => ∃ xs, H p = some (.lst xs) ∧ xs.length ≤ sizeLine ∧ Dvs K H A xs ds
  | .dict kvs => ∃ ks, HDct H p ks ∧ Dvk K H A ks kvs
  | _ => False
/-- the same, read -/
def RdAt (K : PySem.W.Frag) (H : Hp) (A : Addr → Prop) (p : Addr) : PyData → Prop
  | .list ds => ∃ xs, H p = some (.lst xs) ∧ xs.length ≤ sizeLine ∧ Dvs K H A xs ds
  | .dict kvs => ∃ ks, RDct H p ks ∧ Dvk K H A ks kvs
  | _ => False
/-- .. locked, if f is true -/
def LkAt (K : PySem.W.Frag) (H : Hp) (A : Addr → Prop) (p : Addr) (f : Bool) (d : PyData) : Prop := RdAt K H A p d ∧ (f = true → ∃ o u, H p = some (.frz o u))
theorem OwnAt.rd {K : PySem.W.Frag} {H : Hp} {A : Addr → Prop} {p : Addr} {d : PyData} (x : OwnAt K H A p d) : RdAt K H A p d := by
  cases d with
  | list ds => exact x
  | dict kvs => obtain ⟨ks, h, q⟩ := x; exact ⟨ks, h.rd, q⟩
  | _ => exact x.elim
theorem LkAt.rd {K : PySem.W.Frag} {H : Hp} {A : Addr → Prop} {p : Addr} {f : Bool} {d : PyData} (x : LkAt K H A p f d) : RdAt K H A p d := x.1
def ScrAt (K : PySem.W.Frag) (B : Amb) (H : Hp) (a : Addr) (ns : List Int) : Prop :=
  ns.length ≤ sizeLine ∧ ((¬ efs B a ∧ ∃ o, H a = some (.frz o (.lst (ns.map V.int)))) ∨ ∃ (o : Obj) (its : Array Value) (n : Nat), K.lookup a = some o ∧ o.cls = .type "list" ∧ o.dict = none ∧ o.data = .seq its n ∧ its.size ≤ sizeLine ∧ Vals (ns.map V.int) its.toList)
def RelEV (K : PySem.W.Frag) (B : Amb) (A : Addr → Prop) (H : Hp) (v : V) : EV → Prop
  | .d x => Dv K H A v x
  | .own x => ∃ p, v = .ref p ∧ ¬ efs B p ∧ OwnAt K H A p x
  | .lk f x => ∃ p, v = .ref p ∧ ¬ efs B p ∧ LkAt K H A p f x
  | .st => ∃ s g c, B = some (s, g, c) ∧ v = .ref s
  | .scr ns => ∃ a, v = .ref a ∧ ScrAt K B H a ns
/-- the slots as they are -/
structure Rel (K : PySem.W.Frag) (B : Amb) (A : Addr → Prop) (E : Evn) (G : Rng) (σ : St) (H : Hp) : Prop where
  slot : ∀ (i : Nat) ev, E[i]? = some (some ev) → ∃ v, σ[i]? = some (some v) ∧ RelEV K B A H v ev
  jr : JR B G H
  trk : ∀ a, A a → H a ≠ none
  ef : ∀ a, efs B a → A a
  len : E.length = σ.length

section
variable {K : PySem.W.Frag} {B : Amb} {A A' : Addr → Prop} {H H' : Hp} {v : V} {d : PyData} {E : Evn} {G G' : Rng} {σ : St}
theorem Dv.ext (e : Ext B H H') (h : ∀ a, efs B a → A a) (x : Dv K H A v d) : Dv K H' A v d := x.step (fun a o q n => ⟨e.keep a o q fun z => n (h a z), n⟩) e.tup
theorem Dvs.ext {vs : List V} {ds : List PyData} (e : Ext B H H') (h : ∀ a, efs B a → A a) (x : Dvs K H A vs ds) : Dvs K H' A vs ds := x.step (fun a o q n => ⟨e.keep a o q fun z => n (h a z), n⟩) e.tup
theorem Dvk.ext {vs : List (GK × V)} {ds : List (PyData × PyData)} (e : Ext B H H') (h : ∀ a, efs B a → A a) (x : Dvk K H A vs ds) : Dvk K H' A vs ds := x.step (fun a o q n => ⟨e.keep a o q fun z => n (h a z), n⟩) e.tup
theorem Dv.kept (k : Kept H H') (x : Dv K H A v d) : Dv K H' A v d := x.step (fun a o q n => ⟨k a o q, n⟩) fun a xs q => k a _ q
theorem Dvs.kept {vs : List V} {ds : List PyData} (k : Kept H H') (x : Dvs K H A vs ds) : Dvs K H' A vs ds := x.step (fun a o q n => ⟨k a o q, n⟩) fun a xs q => k a _ q
theorem Dvk.kept {vs : List (GK × V)} {ds : List (PyData × PyData)} (k : Kept H H') (x : Dvk K H A vs ds) : Dvk K H' A vs ds := x.step (fun a o q n => ⟨k a o q, n⟩) fun a xs q => k a _ q
theorem Dv.anti (h : ∀ a, A' a → A a) (x : Dv K H A v d) : Dv K H A' v d := x.step (fun a o q n => ⟨q, fun z => n (h a z)⟩) fun _ _ q => q
/-- what H does not know is none of its objects -/
theorem Dv.wide (h : ∀ a, A' a → A a ∨ H a = none) (x : Dv K H A v d) : Dv K H A' v d := x.step (fun a o q n => ⟨q, fun z => (h a z).elim n fun w => by rw [w] at q; cases q⟩) fun _ _ q => q
theorem Dvs.wide {vs : List V} {ds : List PyData} (h : ∀ a, A' a → A a ∨ H a = none) (x : Dvs K H A vs ds) : Dvs K H A' vs ds := x.step (fun a o q n => ⟨q, fun z => (h a z).elim n fun w => by rw [w] at q; cases q⟩) fun _ _ q => q
theorem Dvk.wide {vs : List (GK × V)} {ds : List (PyData × PyData)} (h : ∀ a, A' a → A a ∨ H a = none) (x : Dvk K H A vs ds) : Dvk K H A' vs ds := x.step (fun a o q n => ⟨q, fun z => (h a z).elim n fun w => by rw [w] at q; cases q⟩) fun _ _ q => q
theorem HDct.step {a : Addr} {ks : List (GK × V)} (h : ∀ o, H a = some o → H' a = some o) (x : HDct H a ks) : HDct H' a ks := let ⟨o, r, q⟩ := x; ⟨o, h _ r, q⟩
theorem OwnAt.ext {p : Addr} (e : Ext B H H') (h : ∀ a, efs B a → A a) (n : ¬ efs B p) (x : OwnAt K H A p d) : OwnAt K H' A p d := by
  cases d with
  | list ds => obtain ⟨xs, h1, h2, h3⟩ := x; exact ⟨xs, e.keep _ _ h1 n, h2, h3.ext e h⟩
  | dict kvs => obtain ⟨xs, h1, h3⟩ := x; exact ⟨xs, h1.step fun o q => e.keep _ _ q n, h3.ext e h⟩
  | _ => exact x.elim
theorem OwnAt.wide {p : Addr} (h : ∀ a, A' a → A a ∨ H a = none) (x : OwnAt K H A p d) : OwnAt K H A' p d := by
  cases d with
  | list ds => obtain ⟨xs, h1, h2, h3⟩ := x; exact ⟨xs, h1, h2, h3.wide h⟩
  | dict kvs => obtain ⟨xs, h1, h3⟩ := x; exact ⟨xs, h1, h3.wide h⟩
  | _ => exact x.elim
theorem RdAt.ext {p : Addr} (e : Ext B H H') (h : ∀ a, efs B a → A a) (n : ¬ efs B p) (x : RdAt K H A p d) : RdAt K H' A p d := by
  cases d with
  | list ds => obtain ⟨xs, h1, h2, h3⟩ := x; exact ⟨xs, e.keep _ _ h1 n, h2, h3.ext e h⟩
  | dict kvs => obtain ⟨xs, h1, h3⟩ := x; exact ⟨xs, h1.step fun o q => e.keep _ _ q n, h3.ext e h⟩
  | _ => exact x.elim
theorem RdAt.wide {p : Addr} (h : ∀ a, A' a → A a ∨ H a = none) (x : RdAt K H A p d) : RdAt K H A' p d := by
  cases d with
  | list ds => obtain ⟨xs, h1, h2, h3⟩ := x; exact ⟨xs, h1, h2, h3.wide h⟩
  | dict kvs => obtain ⟨xs, h1, h3⟩ := x; exact ⟨xs, h1, h3.wide h⟩
  | _ => exact x.elim
theorem LkAt.ext {f : Bool} {p : Addr} (e : Ext B H H') (h : ∀ a, efs B a → A a) (n : ¬ efs B p) (x : LkAt K H A p f d) : LkAt K H' A p f d := ⟨x.1.ext e h n, fun q => let ⟨o, u, w⟩ := x.2 q; ⟨o, u, e.keep _ _ w n⟩⟩
theorem LkAt.wide {f : Bool} {p : Addr} (h : ∀ a, A' a → A a ∨ H a = none) (x : LkAt K H A p f d) : LkAt K H A' p f d := ⟨x.1.wide h, x.2⟩
/-- from one heap to another one that knows what is not in A -/
theorem OwnAt.step {p : Addr} (hp : ∀ o, H p = some o → H' p = some o) (h : ∀ a o, H a = some o → ¬ A a → H' a = some o ∧ ¬ A' a) (ht : Tups H H') (x : OwnAt K H A p d) : OwnAt K H' A' p d := by
  cases d with
  | list ds => obtain ⟨xs, h1, h2, h3⟩ := x; exact ⟨xs, hp _ h1, h2, h3.step h ht⟩
  | dict kvs => obtain ⟨xs, h1, h3⟩ := x; exact ⟨xs, h1.step hp, h3.step h ht⟩
  | _ => exact x.elim
theorem RdAt.step {p : Addr} (hp : ∀ o, H p = some o → H' p = some o) (h : ∀ a o, H a = some o → ¬ A a → H' a = some o ∧ ¬ A' a) (ht : Tups H H') (x : RdAt K H A p d) : RdAt K H' A' p d := by
  cases d with
  | list ds => obtain ⟨xs, h1, h2, h3⟩ := x; exact ⟨xs, hp _ h1, h2, h3.step h ht⟩
  | dict kvs => obtain ⟨xs, h1, h3⟩ := x; exact ⟨xs, h1.step hp, h3.step h ht⟩
  | _ => exact x.elim
theorem LkAt.step {f : Bool} {p : Addr} (hp : ∀ o, H p = some o → H' p = some o) (h : ∀ a o, H a = some o → ¬ A a → H' a = some o ∧ ¬ A' a) (ht : Tups H H') (x : LkAt K H A p f d) : LkAt K H' A' p f d := ⟨x.1.step hp h ht, fun q => let ⟨o, u, w⟩ := x.2 q; ⟨o, u, hp _ w⟩⟩
theorem OwnAt.ne {p : Addr} (x : OwnAt K H A p d) : ∀ xs, H p ≠ some (.tup xs) := fun xs e => by
  cases d with
  | list ds => obtain ⟨ys, h1, _⟩ := x; rw [h1] at e; cases e
  | dict kvs => obtain ⟨ks, h1, _⟩ := x; exact h1.ne xs e
  | _ => exact x.elim
theorem OwnAt.sm {p : Addr} (x : OwnAt K H A p d) : ∃ o, H p = some o := by
  cases d with
  | list ds => obtain ⟨ys, h1, _⟩ := x; exact ⟨_, h1⟩
  | dict kvs => obtain ⟨ks, ⟨o, h1, _⟩, _⟩ := x; exact ⟨o, h1⟩
  | _ => exact x.elim
theorem OwnAt.nefrz {p : Addr} (x : OwnAt K H A p d) : ∀ o u, H p ≠ some (.frz o u) := fun o u e => by
  cases d with
  | list ds => obtain ⟨ys, h1, _⟩ := x; rw [h1] at e; cases e
  | dict kvs => obtain ⟨ks, h1, _⟩ := x; exact h1.nefrz o u e
  | _ => exact x.elim
theorem tups_upd {p : Addr} {o : HO} (n : ∀ xs, H p ≠ some (.tup xs)) : Tups H (upd H p o) := fun a xs e => by
  rw [upd_ne fun z => n xs (by rw [← z]; exact e)]
  exact e
theorem ScrAt.ext {a : Addr} {ns : List Int} (e : Ext B H H') (x : ScrAt K B H a ns) : ScrAt K B H' a ns := by
  obtain ⟨z, x⟩ := x
  refine ⟨z, ?_⟩
  rcases x with ⟨n, o, x⟩ | x
  · exact .inl ⟨n, o, e.keep _ _ x n⟩
  · exact .inr x
theorem RelEV.ext {ev : EV} (e : Ext B H H') (h : ∀ a, efs B a → A a) (x : RelEV K B A H v ev) : RelEV K B A H' v ev := by
  cases ev with
  | d y => exact Dv.ext e h x
  | own y => obtain ⟨p, h1, h2, h3⟩ := x; exact ⟨p, h1, h2, h3.ext e h h2⟩
  | lk f y => obtain ⟨p, h1, h2, h3⟩ := x; exact ⟨p, h1, h2, h3.ext e h h2⟩
  | st => exact x
  | scr ns => obtain ⟨a, h1, h2⟩ := x; exact ⟨a, h1, h2.ext e⟩
theorem RelEV.wide {ev : EV} (h : ∀ a, A' a → A a ∨ H a = none) (x : RelEV K B A H v ev) : RelEV K B A' H v ev := by
  cases ev with
  | d y => exact Dv.wide h x
  | own y => obtain ⟨p, h1, h2, h3⟩ := x; exact ⟨p, h1, h2, h3.wide h⟩
  | lk f y => obtain ⟨p, h1, h2, h3⟩ := x; exact ⟨p, h1, h2, h3.wide h⟩
  | st => exact x
  | scr ns => exact x
theorem Rel.ext (R : Rel K B A E G σ H) (e : Ext B H H') (j : JR B G' H') : Rel K B A E G' σ H' :=
  ⟨fun i ev q => let ⟨v, h1, h2⟩ := R.slot i ev q; ⟨v, h1, h2.ext e R.ef⟩, j, fun a q => e.trk a (R.trk a q), R.ef, R.len⟩
/-- a new address is in none of what is to be avoided -/
theorem Rel.new (R : Rel K B A E G σ H) {p : Addr} (h : H p = none) : ¬ A p := fun z => R.trk p z h
end
end Zd

set_option maxRecDepth 100000
set_option maxHeartbeats 4000000
namespace Zd
open PySem L2

/-! ### borrowed: data, or what a slot alone holds -/
inductive Bv (K : PySem.W.Frag) (B : Amb) (H : Hp) (A : Addr → Prop) : V → PyData → Prop
  | d {v : V} {x : PyData} : Dv K H A v x → Bv K B H A v x
  | own {p : Addr} {x : PyData} : ¬ efs B p → RdAt K H A p x → Bv K B H A (.ref p) x
section
variable {K : PySem.W.Frag} {B : Amb} {A A' : Addr → Prop} {H H' : Hp} {v : V} {d : PyData}
theorem Bv.ext (e : Ext B H H') (h : ∀ a, efs B a → A a) (x : Bv K B H A v d) : Bv K B H' A v d := by
  cases x with
  | d y => exact .d (y.ext e h)
  | own n y => exact .own n (y.ext e h n)
theorem Bv.wide (h : ∀ a, A' a → A a ∨ H a = none) (x : Bv K B H A v d) : Bv K B H A' v d := by
  cases x with
  | d y => exact .d (y.wide h)
  | own n y => exact .own n (y.wide h)
/-- a list that is read -/
theorem Bv.list {ds : List PyData} (x : Bv K B H A v (.list ds)) : ∃ a xs, v = .ref a ∧ H a = some (.lst xs) ∧ xs.length ≤ sizeLine ∧ Dvs K H A xs ds := by
  cases x with
  | d y =>
    cases y with
    | lst e n z q => exact ⟨_, _, rfl, e, z, q⟩
  | own n y =>
    obtain ⟨xs, e, z, q⟩ := y
    exact ⟨_, _, rfl, e, z, q⟩
theorem Bv.tuple {ds : List PyData} (x : Bv K B H A v (.tuple ds)) : ∃ a xs, v = .ref a ∧ SqT K H a xs ∧ xs.length ≤ sizeLine ∧ Dvs K H A xs ds := by
  cases x with
  | d y =>
    cases y with
    | tup e z q => exact ⟨_, _, rfl, .inl (.inl e), z, q⟩
  | own n y => exact y.elim
theorem Bv.dict {kvs : List (PyData × PyData)} (x : Bv K B H A v (.dict kvs)) : ∃ a ks, v = .ref a ∧ RDct H a ks ∧ Dvk K H A ks kvs := by
  cases x with
  | d y =>
    cases y with
    | dct e n q => exact ⟨_, _, rfl, e, q⟩
  | own n y => obtain ⟨ks, e, q⟩ := y; exact ⟨_, _, rfl, e, q⟩
theorem Bv.int {i : Int} (x : Bv K B H A v (.int i)) : v = .int i := by
  cases x with
  | d y => cases y; rfl
  | own n y => exact y.elim
theorem Bv.str {z : Str} (x : Bv K B H A v (.str z)) : v = .str z := by
  cases x with
  | d y => cases y; rfl
  | own n y => exact y.elim
theorem Bv.bl {b : Bool} (x : Bv K B H A v (.bool b)) : v = .bl b := by
  cases x with
  | d y => cases y; rfl
  | own n y => exact y.elim
theorem Bv.non (x : Bv K B H A v .none) : v = .non := by
  cases x with
  | d y => cases y; rfl
  | own n y => exact y.elim

mutual
theorem Dv.dp : ∀ {v : V} {d : PyData}, Dv K H A v d → d.canLay0 = true → Dp K H v d
  | _, _, .non, _ => .non
  | _, _, .bl b, _ => .bl b
  | _, _, .int i, _ => .int i
  | _, _, .str x, _ => .str x
  | _, _, .lst e _ _ q, h => .lst (.inl (.inl e)) (Dvs.dp q (by simpa [PyData.canLay0] using h))
  | _, _, .tup e _ q, h => .tup (.inl (.inl e)) (Dvs.dp q (by simpa [PyData.canLay0] using h))
  | _, _, .dct _ _ _, h => by simp [PyData.canLay0] at h
theorem Dvs.dp : ∀ {vs : List V} {ds : List PyData}, Dvs K H A vs ds → PyData.canLayAll0 ds = true → DpAll K H vs ds
  | _, _, .nil, _ => .nil
  | _, _, .cons a b, h => by
    simp only [PyData.canLayAll0, Bool.and_eq_true] at h
    exact .cons (Dv.dp a h.1) (Dvs.dp b h.2)
end
theorem Bv.dp (x : Bv K B H A v d) (h : d.canLay0 = true) : Dp K H v d := by
  cases x with
  | d y => exact y.dp h
  | @own p z n y =>
    cases d with
    | list ds =>
      obtain ⟨xs, e, _, q⟩ := y
      exact .lst (.inl (.inl e)) (q.dp (by simpa [PyData.canLay0] using h))
    | dict kvs => simp [PyData.canLay0] at h
    | _ => exact y.elim
end

/-! ### exceptions -/
structure Exn where
  cls : Str
  fld : Option (List (Str × PyData))
def ExnAt (K : PySem.W.Frag) (mg : Str → Option Value) (H : Hp) (A : Addr → Prop) (cls : Value) (dx : Option Addr) (x : Exn) : Prop :=
  mg x.cls = some cls ∧ match x.fld with
    | none => dx = none
    | some fs => ∃ a vs, dx = some a ∧ H a = some (.xd vs) ∧ ¬ A a ∧ vs.map (·.1) = fs.map (·.1) ∧ Dvs K H A (vs.map (·.2)) (fs.map (·.2))

/-! ### readers -/
abbrev Rd (α : Type) := Evn → Rng → Option (Except Exn α × Rng)
def Rd.ok {α : Type} (a : α) : Rd α := fun _ G => some (.ok a, G)
def Rd.bind {α β : Type} (m : Rd α) (f : α → Rd β) : Rd β := fun E G => match m E G with
  | none => none
  | some (.error x, G1) => some (.error x, G1)
  | some (.ok a, G1) => f a E G1
def Rd.lift {α : Type} (o : Option α) : Rd α := fun _ G => o.map fun a => (.ok a, G)
section
variable {α β : Type} {m : Rd α} {f : α → Rd β} {E : Evn} {G G1 : Rng} {a : α} {x : Exn}
theorem Rd.bind_ok (h : m E G = some (.ok a, G1)) : m.bind f E G = f a E G1 := by unfold Rd.bind; rw [h]
theorem Rd.bind_err (h : m E G = some (.error x, G1)) : m.bind f E G = some (.error x, G1) := by unfold Rd.bind; rw [h]
theorem Rd.bind_cases {r : Except Exn β} {G' : Rng} (h : m.bind f E G = some (r, G')) :
    (∃ x, m E G = some (.error x, G') ∧ r = .error x) ∨ ∃ a G1, m E G = some (.ok a, G1) ∧ f a E G1 = some (r, G') := by
  unfold Rd.bind at h
  split at h
  · cases h
  · rename_i x G1 e; cases h; exact .inl ⟨x, e, rfl⟩
  · rename_i a G1 e; exact .inr ⟨a, G1, e, h⟩
theorem Rd.lift_cases {o : Option α} {r : Except Exn α} {G' : Rng} (h : Rd.lift o E G = some (r, G')) : ∃ a, o = some a ∧ r = .ok a ∧ G' = G := by
  unfold Rd.lift at h
  cases o with
  | none => cases h
  | some a => cases h; exact ⟨a, rfl, rfl, rfl⟩
@[simp] theorem Rd.ok_ap : Rd.ok a E G = some (.ok a, G) := rfl
@[simp] theorem Rd.lift_some : Rd.lift (some a) E G = some (.ok a, G) := rfl
@[simp] theorem Rd.lift_none : Rd.lift (none : Option α) E G = none := rfl
end

/-! ### what is wanted behind an expression -/
structure Cn where
  K : PySem.W.Frag
  mg : Str → Option Value
  B : Amb
  EX : XK
/-- an exception lies as the context wants it -/
def PErr (C : Cn) (A : Addr → Prop) (H : Hp) (x : Exn) (G' : Rng) : Prop :=
  ∀ cls dx H', Ext C.B H H' → JR C.B G' H' → ExnAt C.K C.mg H' A cls dx x → C.EX cls dx H'
/-- data (borrowed) -/
def PostB (C : Cn) (A : Addr → Prop) (H : Hp) (r : Except Exn PyData) (G' : Rng) (Q : VK) : Prop :=
  match r with
  | .ok d => ∀ v H', Ext C.B H H' → JR C.B G' H' → Bv C.K C.B H' A v d → Q v H'
  | .error x => PErr C A H x G'
def PostD (C : Cn) (A : Addr → Prop) (H : Hp) (r : Except Exn PyData) (G' : Rng) (Q : VK) : Prop :=
  match r with
  | .ok d => ∀ v H', Ext C.B H H' → JR C.B G' H' → Dv C.K H' A v d → Q v H'
  | .error x => PErr C A H x G'
def PostT (C : Cn) (A : Addr → Prop) (H : Hp) (r : Except Exn Bool) (G' : Rng) (Q : Bool → Hp → Prop) : Prop :=
  match r with
  | .ok b => ∀ H', Ext C.B H H' → JR C.B G' H' → Q b H'
  | .error x => PErr C A H x G'
/-- a new object that nobody else has -/
def PostF (C : Cn) (A : Addr → Prop) (H : Hp) (r : Except Exn PyData) (G' : Rng) (Q : VK) : Prop :=
  match r with
  | .ok d => ∀ p H', H p = none → Ext C.B H H' → JR C.B G' H' → OwnAt C.K H' (fun a => A a ∨ a = p) p d → Q (.ref p) H'
  | .error x => PErr C A H x G'
/-- arguments: data and the state -/
def ArgV (K : PySem.W.Frag) (B : Amb) (A : Addr → Prop) (H : Hp) (v : V) : EV → Prop
  | .d x => Dv K H A v x
  | .st => ∃ s g c, B = some (s, g, c) ∧ v = .ref s
  | .scr ns => ∃ a, v = .ref a ∧ ScrAt K B H a ns
  | _ => False
abbrev ArgVs (K : PySem.W.Frag) (B : Amb) (A : Addr → Prop) (H : Hp) : List V → List EV → Prop := Paired (ArgV K B A H)
def PostA (C : Cn) (A : Addr → Prop) (H : Hp) (r : Except Exn (List EV)) (G' : Rng) (Q : List V → Hp → Prop) : Prop :=
  match r with
  | .ok es => ∀ vs H', Ext C.B H H' → JR C.B G' H' → ArgVs C.K C.B A H' vs es → Q vs H'
  | .error x => PErr C A H x G'
def PostDs (C : Cn) (A : Addr → Prop) (H : Hp) (r : Except Exn (List PyData)) (G' : Rng) (Q : List V → Hp → Prop) : Prop :=
  match r with
  | .ok es => ∀ vs H', Ext C.B H H' → JR C.B G' H' → Dvs C.K H' A vs es → Q vs H'
  | .error x => PErr C A H x G'
theorem PErr.ext {C : Cn} {A : Addr → Prop} {H H' : Hp} {x : Exn} {G' : Rng} (e : Ext C.B H H') (p : PErr C A H x G') : PErr C A H' x G' := fun cls dx H2 e2 j q => p cls dx H2 (e.trans e2) j q

section
variable (X : Cx) (C : Cn)
structure PB (e : Expr) (m : Rd PyData) : Prop where
  ex : ∃ te, PE X e te ∧ ∀ A E G σ H Q r G', Rel C.K C.B A E G σ H → m E G = some (r, G') → PostB C A H r G' Q → te σ H Q
structure PD (e : Expr) (m : Rd PyData) : Prop where
  ex : ∃ te, PE X e te ∧ ∀ A E G σ H Q r G', Rel C.K C.B A E G σ H → m E G = some (r, G') → PostD C A H r G' Q → te σ H Q
structure PF (e : Expr) (m : Rd PyData) : Prop where
  ex : ∃ te, PE X e te ∧ ∀ A E G σ H Q r G', Rel C.K C.B A E G σ H → m E G = some (r, G') → PostF C A H r G' Q → te σ H Q
structure PTs' (e : Expr) (m : Rd Bool) : Prop where
  ex : ∃ tt, PT X e tt ∧ ∀ A E G σ H Q r G', Rel C.K C.B A E G σ H → m E G = some (r, G') → PostT C A H r G' Q → tt σ H Q
structure PWs' (e : Expr) (m : Rd Bool) : Prop where
  ex : ∃ tt, PW X e tt ∧ ∀ A E G σ H Q r G', Rel C.K C.B A E G σ H → m E G = some (r, G') → PostT C A H r G' Q → tt σ H Q
structure PAs (es : List Expr) (m : Rd (List EV)) : Prop where
  ex : ∃ ta, PA X es ta ∧ ∀ A E G σ H Q r G', Rel C.K C.B A E G σ H → m E G = some (r, G') → PostA C A H r G' Q → ta σ H Q
  len : ∀ E G as G', m E G = some (.ok as, G') → as.length = es.length
structure PDs (es : List Expr) (m : Rd (List PyData)) : Prop where
  ex : ∃ ta, PA X es ta ∧ ∀ A E G σ H Q r G', Rel C.K C.B A E G σ H → m E G = some (r, G') → PostDs C A H r G' Q → ta σ H Q
end
section
variable {X : Cx} {C : Cn} {e : Expr} {m : Rd PyData}
theorem PB.of (h : PD X C e m) : PB X C e m := by
  obtain ⟨te, h1, h2⟩ := h.ex
  refine ⟨te, h1, fun A E G σ H Q r G' R hm p => h2 A E G σ H Q r G' R hm ?_⟩
  cases r with
  | ok d => exact fun v H' e j q => p v H' e j (.d q)
  | error x => exact p
theorem PD.of (h : PF X C e m) : PD X C e m := by
  obtain ⟨te, h1, h2⟩ := h.ex
  refine ⟨te, h1, fun A E G σ H Q r G' R hm p => h2 A E G σ H Q r G' R hm ?_⟩
  cases r with
  | ok d =>
    intro v H' n e j q
    have q' := q.wide (A' := A) fun a h => .inl (.inl h)
    have nA : ¬ A v := R.new n
    cases d with
    | list ds =>
      obtain ⟨xs, h1, h2, h3⟩ := q'
      exact p _ _ e j (.lst h1 nA h2 h3)
    | dict ds =>
      obtain ⟨xs, h1, h3⟩ := q'
      exact p _ _ e j (.dct h1.rd nA h3)
    | _ => exact q.elim
  | error x => exact p
theorem PB.ofF (h : PF X C e m) : PB X C e m := .of (.of h)
end
end Zd

set_option maxRecDepth 100000
set_option maxHeartbeats 4000000
namespace Zd
open PySem L2

section
variable {C : Cn} {A : Addr → Prop} {H H' : Hp} {G' : Rng}
theorem PostB.ext {r : Except Exn PyData} {Q : VK} (e : Ext C.B H H') (p : PostB C A H r G' Q) : PostB C A H' r G' Q := by
  cases r with
  | ok d => exact fun v H2 e2 j q => p v H2 (e.trans e2) j q
  | error x => exact PErr.ext e p
theorem PostD.ext {r : Except Exn PyData} {Q : VK} (e : Ext C.B H H') (p : PostD C A H r G' Q) : PostD C A H' r G' Q := by
  cases r with
  | ok d => exact fun v H2 e2 j q => p v H2 (e.trans e2) j q
  | error x => exact PErr.ext e p
theorem PostT.ext {r : Except Exn Bool} {Q : Bool → Hp → Prop} (e : Ext C.B H H') (p : PostT C A H r G' Q) : PostT C A H' r G' Q := by
  cases r with
  | ok d => exact fun H2 e2 j => p H2 (e.trans e2) j
  | error x => exact PErr.ext e p
theorem PostF.ext {r : Except Exn PyData} {Q : VK} (e : Ext C.B H H') (p : PostF C A H r G' Q) : PostF C A H' r G' Q := by
  cases r with
  | ok d => exact fun v H2 n e2 j q => p v H2 (e.free n) (e.trans e2) j q
  | error x => exact PErr.ext e p
theorem PostA.ext {r : Except Exn (List EV)} {Q : List V → Hp → Prop} (e : Ext C.B H H') (p : PostA C A H r G' Q) : PostA C A H' r G' Q := by
  cases r with
  | ok d => exact fun v H2 e2 j q => p v H2 (e.trans e2) j q
  | error x => exact PErr.ext e p
theorem PostDs.ext {r : Except Exn (List PyData)} {Q : List V → Hp → Prop} (e : Ext C.B H H') (p : PostDs C A H r G' Q) : PostDs C A H' r G' Q := by
  cases r with
  | ok d => exact fun v H2 e2 j q => p v H2 (e.trans e2) j q
  | error x => exact PErr.ext e p
end

/-- one reader, then more -/
theorem goB {C : Cn} {te : TE} {m : Rd PyData} {β : Type} {f : PyData → Rd β} {A : Addr → Prop} {E : Evn} {G G' : Rng} {σ : St} {H : Hp} {Q : VK} {r : Except Exn β}
    (h : ∀ A E G σ H Q r G', Rel C.K C.B A E G σ H → m E G = some (r, G') → PostB C A H r G' Q → te σ H Q) (R : Rel C.K C.B A E G σ H) (hm : m.bind f E G = some (r, G'))
    (pe : ∀ x, r = .error x → PErr C A H x G') (k : ∀ d G1 v H1, Ext C.B H H1 → Rel C.K C.B A E G1 σ H1 → Bv C.K C.B H1 A v d → f d E G1 = some (r, G') → Q v H1) : te σ H Q := by
  rcases Rd.bind_cases hm with ⟨x, h1, h2⟩ | ⟨d, G1, h1, h2⟩
  · exact h A E G σ H Q _ _ R h1 (pe x h2)
  · exact h A E G σ H Q _ _ R h1 fun v H1 e j q => k d G1 v H1 e (R.ext e j) q h2
theorem goD {C : Cn} {te : TE} {m : Rd PyData} {β : Type} {f : PyData → Rd β} {A : Addr → Prop} {E : Evn} {G G' : Rng} {σ : St} {H : Hp} {Q : VK} {r : Except Exn β}
    (h : ∀ A E G σ H Q r G', Rel C.K C.B A E G σ H → m E G = some (r, G') → PostD C A H r G' Q → te σ H Q) (R : Rel C.K C.B A E G σ H) (hm : m.bind f E G = some (r, G'))
    (pe : ∀ x, r = .error x → PErr C A H x G') (k : ∀ d G1 v H1, Ext C.B H H1 → Rel C.K C.B A E G1 σ H1 → Dv C.K H1 A v d → f d E G1 = some (r, G') → Q v H1) : te σ H Q := by
  rcases Rd.bind_cases hm with ⟨x, h1, h2⟩ | ⟨d, G1, h1, h2⟩
  · exact h A E G σ H Q _ _ R h1 (pe x h2)
  · exact h A E G σ H Q _ _ R h1 fun v H1 e j q => k d G1 v H1 e (R.ext e j) q h2
theorem goT {C : Cn} {tt : TT} {m : Rd Bool} {β : Type} {f : Bool → Rd β} {A : Addr → Prop} {E : Evn} {G G' : Rng} {σ : St} {H : Hp} {Q : Bool → Hp → Prop} {r : Except Exn β}
    (h : ∀ A E G σ H Q r G', Rel C.K C.B A E G σ H → m E G = some (r, G') → PostT C A H r G' Q → tt σ H Q) (R : Rel C.K C.B A E G σ H) (hm : m.bind f E G = some (r, G'))
    (pe : ∀ x, r = .error x → PErr C A H x G') (k : ∀ d G1 H1, Ext C.B H H1 → Rel C.K C.B A E G1 σ H1 → f d E G1 = some (r, G') → Q d H1) : tt σ H Q := by
  rcases Rd.bind_cases hm with ⟨x, h1, h2⟩ | ⟨d, G1, h1, h2⟩
  · exact h A E G σ H Q _ _ R h1 (pe x h2)
  · exact h A E G σ H Q _ _ R h1 fun H1 e j => k d G1 H1 e (R.ext e j) h2
theorem goDs {C : Cn} {ta : TA} {m : Rd (List PyData)} {β : Type} {f : List PyData → Rd β} {A : Addr → Prop} {E : Evn} {G G' : Rng} {σ : St} {H : Hp} {Q : List V → Hp → Prop} {r : Except Exn β}
    (h : ∀ A E G σ H Q r G', Rel C.K C.B A E G σ H → m E G = some (r, G') → PostDs C A H r G' Q → ta σ H Q) (R : Rel C.K C.B A E G σ H) (hm : m.bind f E G = some (r, G'))
    (pe : ∀ x, r = .error x → PErr C A H x G') (k : ∀ d G1 v H1, Ext C.B H H1 → Rel C.K C.B A E G1 σ H1 → Dvs C.K H1 A v d → f d E G1 = some (r, G') → Q v H1) : ta σ H Q := by
  rcases Rd.bind_cases hm with ⟨x, h1, h2⟩ | ⟨d, G1, h1, h2⟩
  · exact h A E G σ H Q _ _ R h1 (pe x h2)
  · exact h A E G σ H Q _ _ R h1 fun v H1 e j q => k d G1 v H1 e (R.ext e j) q h2
theorem goA {C : Cn} {ta : TA} {m : Rd (List EV)} {β : Type} {f : List EV → Rd β} {A : Addr → Prop} {E : Evn} {G G' : Rng} {σ : St} {H : Hp} {Q : List V → Hp → Prop} {r : Except Exn β}
    (h : ∀ A E G σ H Q r G', Rel C.K C.B A E G σ H → m E G = some (r, G') → PostA C A H r G' Q → ta σ H Q) (R : Rel C.K C.B A E G σ H) (hm : m.bind f E G = some (r, G'))
    (pe : ∀ x, r = .error x → PErr C A H x G') (k : ∀ d G1 v H1, Ext C.B H H1 → Rel C.K C.B A E G1 σ H1 → ArgVs C.K C.B A H1 v d → f d E G1 = some (r, G') → Q v H1) : ta σ H Q := by
  rcases Rd.bind_cases hm with ⟨x, h1, h2⟩ | ⟨d, G1, h1, h2⟩
  · exact h A E G σ H Q _ _ R h1 (pe x h2)
  · exact h A E G σ H Q _ _ R h1 fun v H1 e j q => k d G1 v H1 e (R.ext e j) q h2
theorem PostB.err {C : Cn} {A : Addr → Prop} {H : Hp} {r : Except Exn PyData} {G' : Rng} {Q : VK} (p : PostB C A H r G' Q) : ∀ x, r = .error x → PErr C A H x G' := fun x e => by subst e; exact p
theorem PostD.err {C : Cn} {A : Addr → Prop} {H : Hp} {r : Except Exn PyData} {G' : Rng} {Q : VK} (p : PostD C A H r G' Q) : ∀ x, r = .error x → PErr C A H x G' := fun x e => by subst e; exact p
theorem PostF.err {C : Cn} {A : Addr → Prop} {H : Hp} {r : Except Exn PyData} {G' : Rng} {Q : VK} (p : PostF C A H r G' Q) : ∀ x, r = .error x → PErr C A H x G' := fun x e => by subst e; exact p
theorem PostT.err {C : Cn} {A : Addr → Prop} {H : Hp} {r : Except Exn Bool} {G' : Rng} {Q : Bool → Hp → Prop} (p : PostT C A H r G' Q) : ∀ x, r = .error x → PErr C A H x G' := fun x e => by subst e; exact p
theorem PostA.err {C : Cn} {A : Addr → Prop} {H : Hp} {r : Except Exn (List EV)} {G' : Rng} {Q : List V → Hp → Prop} (p : PostA C A H r G' Q) : ∀ x, r = .error x → PErr C A H x G' := fun x e => by subst e; exact p
theorem PostDs.err {C : Cn} {A : Addr → Prop} {H : Hp} {r : Except Exn (List PyData)} {G' : Rng} {Q : List V → Hp → Prop} (p : PostDs C A H r G' Q) : ∀ x, r = .error x → PErr C A H x G' := fun x e => by subst e; exact p

/-! ### names and constants -/
def mVar (i : Nat) : Rd PyData := fun E G => match E[i]? with
  | some (some (.d x)) => some (.ok x, G)
  | _ => none
def mBor (i : Nat) : Rd PyData := fun E G => match E[i]? with
  | some (some (.d x)) => some (.ok x, G)
  | some (some (.own x)) => some (.ok x, G)
  | some (some (.lk _ x)) => some (.ok x, G)
  | _ => none
section
variable {X : Cx} {C : Cn} {pos : Pos}
theorem pd_var (i : Nat) {x : Str} (hN : X.N[i]? = some x := by rfl) (hv : Vis X.env.scope x := by first | exact Or.inl rfl | exact Or.inr (Or.inl rfl) | exact Or.inr (Or.inr rfl)) (hd : (x == ("__debug__" : Str)) = false := by decide)
    (hcd : (x == ("__classdict__" : Str)) = false := by decide) : PD X C (.Name x pos) (mVar i) := by
  refine ⟨_, pe_var hN hv hd hcd, fun A E G σ H Q r G' R hm p => ?_⟩
  unfold mVar at hm
  split at hm
  · rename_i y e
    cases hm
    obtain ⟨v, h1, h2⟩ := R.slot i _ e
    exact ⟨v, h1, p v H (Ext.refl _ _) R.jr h2⟩
  · cases hm
theorem pb_bor (i : Nat) {x : Str} (hN : X.N[i]? = some x := by rfl) (hv : Vis X.env.scope x := by first | exact Or.inl rfl | exact Or.inr (Or.inl rfl) | exact Or.inr (Or.inr rfl)) (hd : (x == ("__debug__" : Str)) = false := by decide)
    (hcd : (x == ("__classdict__" : Str)) = false := by decide) : PB X C (.Name x pos) (mBor i) := by
  refine ⟨_, pe_var hN hv hd hcd, fun A E G σ H Q r G' R hm p => ?_⟩
  unfold mBor at hm
  split at hm
  · rename_i y e
    cases hm
    obtain ⟨v, h1, h2⟩ := R.slot i _ e
    exact ⟨v, h1, p v H (Ext.refl _ _) R.jr (.d h2)⟩
  · rename_i y e
    cases hm
    obtain ⟨v, h1, q, h2, h3, h4⟩ := R.slot i _ e
    subst h2
    exact ⟨_, h1, p _ H (Ext.refl _ _) R.jr (.own h3 h4.rd)⟩
  · rename_i y e
    cases hm
    obtain ⟨v, h1, q, h2, h3, h4⟩ := R.slot i _ e
    subst h2
    exact ⟨_, h1, p _ H (Ext.refl _ _) R.jr (.own h3 h4.rd)⟩
  · cases hm
theorem pd_c {e : Expr} {v : V} {d : PyData} (h : PE X e (tC v)) (hd : ∀ H A, Dv C.K H A v d) : PD X C e (Rd.ok d) := by
  refine ⟨_, h, fun A E G σ H Q r G' R hm p => ?_⟩
  cases hm
  exact p v H (Ext.refl _ _) R.jr (hd H A)
theorem pd_int {i j} : PD X C (.Constant (.int i) j pos) (Rd.ok (.int i)) := pd_c pe_int fun _ _ => .int i
theorem pd_bl {i j} : PD X C (.Constant (.bool i) j pos) (Rd.ok (.bool i)) := pd_c pe_bl fun _ _ => .bl i
theorem pd_non {j} : PD X C (.Constant .none j pos) (Rd.ok .none) := pd_c pe_non fun _ _ => .non
theorem pd_str {i j} : PD X C (.Constant (.str i) j pos) (Rd.ok (.str i)) := pd_c pe_str fun _ _ => .str i
/-- a constant of the module -/
theorem pd_glob {x : Str} {v : V} {u : Value} {d : PyData} (hg : Gl X x) (hm : X.mg x = some u) (r : RelV v u) (h : ∀ H A, Dv C.K H A v d) (hd : (x == ("__debug__" : Str)) = false := by decide) : PD X C (.Name x pos) (Rd.ok d) :=
  pd_c (pe_glob hg hm r hd) h
end

/-! ### operators -/
def rZ2 (C : Cn) (g : PyData → PyData → Option PyData) : R2 := fun x y H Q => ∃ A dx dy dz, (∀ a, A a → H a ≠ none) ∧ (∀ a, efs C.B a → A a) ∧ Bv C.K C.B H A x dx ∧ Bv C.K C.B H A y dy ∧ g dx dy = some dz ∧
  ∀ v H', Kept H H' → Dv C.K H' A v dz → Q v H'
def rZF (C : Cn) (g : PyData → PyData → Option PyData) : R2 := fun x y H Q => ∃ A dx dy dz, (∀ a, A a → H a ≠ none) ∧ (∀ a, efs C.B a → A a) ∧ Bv C.K C.B H A x dx ∧ Bv C.K C.B H A y dy ∧ g dx dy = some dz ∧
  ∀ p H', H p = none → Kept H H' → OwnAt C.K H' (fun a => A a ∨ a = p) p dz → Q (.ref p) H'
def mOp (g : PyData → PyData → Option PyData) (m1 m2 : Rd PyData) : Rd PyData := m1.bind fun a => m2.bind fun b => Rd.lift (g a b)
section
variable {X : Cx} {C : Cn} {pos : Pos} {a b : Expr} {m1 m2 : Rd PyData} {g : PyData → PyData → Option PyData}
/-- the two operands, then the rule -/
theorem op_core {ta tb : TE}
    (h1 : ∀ A E G σ H Q r G', Rel C.K C.B A E G σ H → m1 E G = some (r, G') → PostB C A H r G' Q → ta σ H Q)
    (h2 : ∀ A E G σ H Q r G', Rel C.K C.B A E G σ H → m2 E G = some (r, G') → PostB C A H r G' Q → tb σ H Q) :
    ∀ A E G σ H Q r G', Rel C.K C.B A E G σ H → mOp g m1 m2 E G = some (r, G') → PostD C A H r G' Q → tOp (rZ2 C g) ta tb σ H Q := by
  intro A E G σ H Q r G' R hm p
  show ta σ H fun x H1 => tb σ H1 fun y H2 => rZ2 C g x y H2 Q
  refine goB h1 R hm p.err fun d1 G1 v1 H1 e1 R1 q1 hm1 => ?_
  refine goB h2 R1 hm1 (fun x hx => (p.err x hx).ext e1) fun d2 G2 v2 H2 e2 R2 q2 hm2 => ?_
  obtain ⟨dz, hz, rfl, rfl⟩ := Rd.lift_cases hm2
  refine ⟨A, d1, d2, dz, R2.trk, R2.ef, q1.ext e2 R.ef, q2, hz, fun v H' k q => p v H' ((e1.trans e2).trans k.ext) (k.jr R2.jr) q⟩
theorem opF_core {ta tb : TE}
    (h1 : ∀ A E G σ H Q r G', Rel C.K C.B A E G σ H → m1 E G = some (r, G') → PostB C A H r G' Q → ta σ H Q)
    (h2 : ∀ A E G σ H Q r G', Rel C.K C.B A E G σ H → m2 E G = some (r, G') → PostB C A H r G' Q → tb σ H Q) :
    ∀ A E G σ H Q r G', Rel C.K C.B A E G σ H → mOp g m1 m2 E G = some (r, G') → PostF C A H r G' Q → tOp (rZF C g) ta tb σ H Q := by
  intro A E G σ H Q r G' R hm p
  show ta σ H fun x H1 => tb σ H1 fun y H2 => rZF C g x y H2 Q
  refine goB h1 R hm p.err fun d1 G1 v1 H1 e1 R1 q1 hm1 => ?_
  refine goB h2 R1 hm1 (fun x hx => (p.err x hx).ext e1) fun d2 G2 v2 H2 e2 R2 q2 hm2 => ?_
  obtain ⟨dz, hz, rfl, rfl⟩ := Rd.lift_cases hm2
  refine ⟨A, d1, d2, dz, R2.trk, R2.ef, q1.ext e2 R.ef, q2, hz, fun v H' n k q => p v H' ((e1.trans e2).free n) ((e1.trans e2).trans k.ext) (k.jr R2.jr) q⟩
theorem pd_bin {op : Operator} (ho : OpR X (binaryOp op) (rZ2 C g)) (h1 : PB X C a m1) (h2 : PB X C b m2) : PD X C (.BinOp a op b pos) (mOp g m1 m2) := by
  obtain ⟨ta, p1, q1⟩ := h1.ex
  obtain ⟨tb, p2, q2⟩ := h2.ex
  exact ⟨_, pe_op ho p1 p2, op_core q1 q2⟩
theorem pf_bin {op : Operator} (ho : OpR X (binaryOp op) (rZF C g)) (h1 : PB X C a m1) (h2 : PB X C b m2) : PF X C (.BinOp a op b pos) (mOp g m1 m2) := by
  obtain ⟨ta, p1, q1⟩ := h1.ex
  obtain ⟨tb, p2, q2⟩ := h2.ex
  exact ⟨_, pe_op ho p1 p2, opF_core q1 q2⟩
/-- a comparison as a value, as a test -/
theorem pd_cmp {op : CmpOp} (ho : OpR X (compareOp op) (rZ2 C g)) (h1 : PB X C a m1) (h2 : PB X C b m2) (hm : behindInMarks op b = false := by first | exact nomark _ | with_unfolding_all rfl) : PD X C (.Compare a [op] [b] pos) (mOp g m1 m2) := by
  obtain ⟨ta, p1, q1⟩ := h1.ex
  obtain ⟨tb, p2, q2⟩ := h2.ex
  exact ⟨_, pe_cmpR ho p1 p2 hm, op_core q1 q2⟩
def asB (d : PyData) : Option Bool := match d with
  | .bool b => some b
  | _ => none
def mT (m : Rd PyData) : Rd Bool := m.bind fun d => Rd.lift (asB d)
/-- a value that is a bool, as a test -/
theorem test_core {te : TE} {m : Rd PyData} (h : ∀ A E G σ H Q r G', Rel C.K C.B A E G σ H → m E G = some (r, G') → PostD C A H r G' Q → te σ H Q) :
    ∀ A E G σ H Q r G', Rel C.K C.B A E G σ H → mT m E G = some (r, G') → PostT C A H r G' Q → tTest te σ H Q := by
  intro A E G σ H Q r G' R hm p
  show te σ H fun x H' => ∃ k, x = .bl k ∧ Q k H'
  refine goD h R hm p.err fun d G1 v H1 e1 R1 q1 hm1 => ?_
  obtain ⟨b, hb, rfl, rfl⟩ := Rd.lift_cases hm1
  unfold asB at hb
  split at hb
  · cases hb
    cases q1
    exact ⟨_, rfl, p H1 e1 R1.jr⟩
  · cases hb
theorem pt_cmp' {op : CmpOp} (ho : OpR X (compareOp op) (rZ2 C g)) (h1 : PB X C a m1) (h2 : PB X C b m2) (hm : behindInMarks op b = false := by first | exact nomark _ | with_unfolding_all rfl) : PTs' X C (.Compare a [op] [b] pos) (mT (mOp g m1 m2)) := by
  obtain ⟨ta, p1, q1⟩ := h1.ex
  obtain ⟨tb, p2, q2⟩ := h2.ex
  exact ⟨_, pt_cmpR ho p1 p2 hm, test_core (op_core q1 q2)⟩
theorem pt_d {e : Expr} {m : Rd PyData} (h : PD X C e m) (he : ∀ whole, isTrue e X.env whole = (do let v ← whole; standAt e.pos; holding [v] (truthy v)) := by intro _; rfl) : PTs' X C e (mT m) := by
  obtain ⟨ta, p1, q1⟩ := h.ex
  exact ⟨_, pt_val p1 he, test_core q1⟩

/-! ### and, or, not, if -/
def mAnd (m1 m2 : Rd Bool) : Rd Bool := m1.bind fun b => if b = true then m2 else Rd.ok false
def mOr (m1 m2 : Rd Bool) : Rd Bool := m1.bind fun b => if b = true then Rd.ok true else m2
def mNot (m1 : Rd Bool) : Rd Bool := m1.bind fun b => Rd.ok (!b)
variable {t1 t2 : Rd Bool} {rest : List Expr}
theorem PTs'.of (h : PWs' X C a t1) : PTs' X C a t1 := by
  obtain ⟨ta, p1, q1⟩ := h.ex
  exact ⟨ta, p1.pt, q1⟩
theorem ptw_and1 (h : PTs' X C a t1) : PWs' X C (.BoolOp .And [a] pos) t1 := by
  obtain ⟨ta, p1, q1⟩ := h.ex
  exact ⟨ta, pw_and1 p1, q1⟩
theorem ptw_or1 (h : PTs' X C a t1) : PWs' X C (.BoolOp .Or [a] pos) t1 := by
  obtain ⟨ta, p1, q1⟩ := h.ex
  exact ⟨ta, pw_or1 p1, q1⟩
theorem and_core {ta tb : TT}
    (h1 : ∀ A E G σ H Q r G', Rel C.K C.B A E G σ H → t1 E G = some (r, G') → PostT C A H r G' Q → ta σ H Q)
    (h2 : ∀ A E G σ H Q r G', Rel C.K C.B A E G σ H → t2 E G = some (r, G') → PostT C A H r G' Q → tb σ H Q) :
    ∀ A E G σ H Q r G', Rel C.K C.B A E G σ H → mAnd t1 t2 E G = some (r, G') → PostT C A H r G' Q → tAnd ta tb σ H Q := by
  intro A E G σ H Q r G' R hm p
  show ta σ H fun c H1 => if c = true then tb σ H1 Q else Q false H1
  refine goT h1 R hm p.err fun b G1 H1 e1 R1 hm1 => ?_
  cases b with
  | true => exact h2 A E G1 σ H1 Q r G' R1 hm1 (p.ext e1)
  | false => cases hm1; exact p H1 e1 R1.jr
theorem or_core {ta tb : TT}
    (h1 : ∀ A E G σ H Q r G', Rel C.K C.B A E G σ H → t1 E G = some (r, G') → PostT C A H r G' Q → ta σ H Q)
    (h2 : ∀ A E G σ H Q r G', Rel C.K C.B A E G σ H → t2 E G = some (r, G') → PostT C A H r G' Q → tb σ H Q) :
    ∀ A E G σ H Q r G', Rel C.K C.B A E G σ H → mOr t1 t2 E G = some (r, G') → PostT C A H r G' Q → tOr ta tb σ H Q := by
  intro A E G σ H Q r G' R hm p
  show ta σ H fun c H1 => if c = true then Q true H1 else tb σ H1 Q
  refine goT h1 R hm p.err fun b G1 H1 e1 R1 hm1 => ?_
  cases b with
  | false => exact h2 A E G1 σ H1 Q r G' R1 hm1 (p.ext e1)
  | true => cases hm1; exact p H1 e1 R1.jr
theorem ptw_and (h1 : PTs' X C a t1) (h2 : PWs' X C (.BoolOp .And (b :: rest) pos) t2) : PWs' X C (.BoolOp .And (a :: b :: rest) pos) (mAnd t1 t2) := by
  obtain ⟨ta, p1, q1⟩ := h1.ex
  obtain ⟨tb, p2, q2⟩ := h2.ex
  exact ⟨_, pw_and p1 p2, and_core q1 q2⟩
theorem ptw_or (h1 : PTs' X C a t1) (h2 : PWs' X C (.BoolOp .Or (b :: rest) pos) t2) : PWs' X C (.BoolOp .Or (a :: b :: rest) pos) (mOr t1 t2) := by
  obtain ⟨ta, p1, q1⟩ := h1.ex
  obtain ⟨tb, p2, q2⟩ := h2.ex
  exact ⟨_, pw_or p1 p2, or_core q1 q2⟩
theorem pt_not' (h1 : PTs' X C a t1) : PTs' X C (.UnaryOp .Not a pos) (mNot t1) := by
  obtain ⟨ta, p1, q1⟩ := h1.ex
  refine ⟨_, pt_not p1, fun A E G σ H Q r G' R hm p => ?_⟩
  show ta σ H fun c H1 => Q (!c) H1
  refine goT q1 R hm p.err fun b G1 H1 e1 R1 hm1 => ?_
  cases hm1
  exact p H1 e1 R1.jr
/-- as values, all of them bools -/
def mAndV (m1 m2 : Rd PyData) : Rd PyData := (mT m1).bind fun b => if b = true then m2 else Rd.ok (.bool false)
def mOrV (m1 m2 : Rd PyData) : Rd PyData := (mT m1).bind fun b => if b = true then Rd.ok (.bool true) else m2
def mNotV (m1 : Rd PyData) : Rd PyData := (mT m1).bind fun b => Rd.ok (.bool (!b))
theorem pd_one {op} (h : PD X C a m1) : PD X C (.BoolOp op [a] pos) m1 := by
  obtain ⟨ta, p1, q1⟩ := h.ex
  exact ⟨ta, pe_one p1, q1⟩
theorem pd_and (h1 : PD X C a m1) (h2 : PD X C (.BoolOp .And (b :: rest) pos) m2) : PD X C (.BoolOp .And (a :: b :: rest) pos) (mAndV m1 m2) := by
  obtain ⟨ta, p1, q1⟩ := h1.ex
  obtain ⟨tb, p2, q2⟩ := h2.ex
  refine ⟨_, pe_and p1 p2, fun A E G σ H Q r G' R hm p => ?_⟩
  show tTest ta σ H fun c H1 => if c = true then tb σ H1 Q else Q (.bl false) H1
  refine goT (test_core q1) R hm p.err fun b G1 H1 e1 R1 hm1 => ?_
  cases b with
  | true => exact q2 A E G1 σ H1 Q r G' R1 hm1 (p.ext e1)
  | false => cases hm1; exact p _ H1 e1 R1.jr (.bl false)
theorem pd_or (h1 : PD X C a m1) (h2 : PD X C (.BoolOp .Or (b :: rest) pos) m2) : PD X C (.BoolOp .Or (a :: b :: rest) pos) (mOrV m1 m2) := by
  obtain ⟨ta, p1, q1⟩ := h1.ex
  obtain ⟨tb, p2, q2⟩ := h2.ex
  refine ⟨_, pe_or p1 p2, fun A E G σ H Q r G' R hm p => ?_⟩
  show tTest ta σ H fun c H1 => if c = true then Q (.bl true) H1 else tb σ H1 Q
  refine goT (test_core q1) R hm p.err fun b G1 H1 e1 R1 hm1 => ?_
  cases b with
  | false => exact q2 A E G1 σ H1 Q r G' R1 hm1 (p.ext e1)
  | true => cases hm1; exact p _ H1 e1 R1.jr (.bl true)
theorem pd_not (h1 : PD X C a m1) : PD X C (.UnaryOp .Not a pos) (mNotV m1) := by
  obtain ⟨ta, p1, q1⟩ := h1.ex
  refine ⟨_, pe_not p1, fun A E G σ H Q r G' R hm p => ?_⟩
  show tTest ta σ H fun c H1 => Q (.bl (!c)) H1
  refine goT (test_core q1) R hm p.err fun b G1 H1 e1 R1 hm1 => ?_
  cases hm1
  exact p _ H1 e1 R1.jr (.bl _)
def mIfE (t : Rd Bool) (m1 m2 : Rd PyData) : Rd PyData := t.bind fun b => if b = true then m1 else m2
theorem pd_if {c : Expr} (h : PTs' X C c t1) (h1 : PD X C a m1) (h2 : PD X C b m2) : PD X C (.IfExp c a b pos) (mIfE t1 m1 m2) := by
  obtain ⟨tc, p0, q0⟩ := h.ex
  obtain ⟨ta, p1, q1⟩ := h1.ex
  obtain ⟨tb, p2, q2⟩ := h2.ex
  refine ⟨_, pe_ifExp p0 p1 p2, fun A E G σ H Q r G' R hm p => ?_⟩
  show tc σ H fun c H1 => if c = true then ta σ H1 Q else tb σ H1 Q
  refine goT q0 R hm p.err fun b G1 H1 e1 R1 hm1 => ?_
  cases b with
  | true => exact q1 A E G1 σ H1 Q r G' R1 hm1 (p.ext e1)
  | false => exact q2 A E G1 σ H1 Q r G' R1 hm1 (p.ext e1)
theorem pf_if {c : Expr} (h : PTs' X C c t1) (h1 : PF X C a m1) (h2 : PF X C b m2) : PF X C (.IfExp c a b pos) (mIfE t1 m1 m2) := by
  obtain ⟨tc, p0, q0⟩ := h.ex
  obtain ⟨ta, p1, q1⟩ := h1.ex
  obtain ⟨tb, p2, q2⟩ := h2.ex
  refine ⟨_, pe_ifExp p0 p1 p2, fun A E G σ H Q r G' R hm p => ?_⟩
  show tc σ H fun c H1 => if c = true then ta σ H1 Q else tb σ H1 Q
  refine goT q0 R hm p.err fun b G1 H1 e1 R1 hm1 => ?_
  cases b with
  | true => exact q1 A E G1 σ H1 Q r G' R1 hm1 (p.ext e1)
  | false => exact q2 A E G1 σ H1 Q r G' R1 hm1 (p.ext e1)
/-- a op1 b op2 c -/
def mChain (g g' : PyData → PyData → Option PyData) (m1 m2 m3 : Rd PyData) : Rd PyData := m1.bind fun a => m2.bind fun b => (Rd.lift ((g a b).bind asB)).bind fun k => if k = true then m3.bind fun c => Rd.lift (g' b c) else Rd.ok (.bool false)
end

/-! ### displays -/
def mNil : Rd (List PyData) := Rd.ok []
def mCons (m : Rd PyData) (ms : Rd (List PyData)) : Rd (List PyData) := m.bind fun d => ms.bind fun ds => Rd.ok (d :: ds)
def mTup (ms : Rd (List PyData)) : Rd PyData := ms.bind fun ds => Rd.lift (if ds.length ≤ 100000 then some (.tuple ds) else none)
def mLst (ms : Rd (List PyData)) : Rd PyData := ms.bind fun ds => Rd.lift (if ds.length ≤ 100000 then some (.list ds) else none)
theorem sz {n : Nat} (h : n ≤ 100000) : n ≤ sizeLine := Nat.le_trans h (by decide)
section
variable {X : Cx} {C : Cn} {pos : Pos} {e : Expr} {es : List Expr} {m : Rd PyData} {ms : Rd (List PyData)}
theorem pds_nil : PDs X C [] mNil := by
  refine ⟨_, pa_nil, fun A E G σ H Q r G' R hm p => ?_⟩
  cases hm
  exact p [] H (Ext.refl _ _) R.jr .nil
theorem pds_cons (h : PD X C e m) (hs : PDs X C es ms) (hst : starEach (e :: es) X.env = (false, eval e X.env) :: starEach es X.env := by rfl) : PDs X C (e :: es) (mCons m ms) := by
  obtain ⟨te, p1, q1⟩ := h.ex
  obtain ⟨ta, p2, q2⟩ := hs.ex
  refine ⟨_, pa_cons p1 p2 hst, fun A E G σ H Q r G' R hm p => ?_⟩
  show te σ H fun x H1 => ta σ H1 fun xs H2 => Q (x :: xs) H2
  refine goD q1 R hm p.err fun d G1 v H1 e1 R1 d1 hm1 => ?_
  refine goDs q2 R1 hm1 (fun x hx => (p.err x hx).ext e1) fun ds G2 vs H2 e2 R2 d2 hm2 => ?_
  cases hm2
  exact p _ H2 (e1.trans e2) R2.jr (.cons (d1.ext e2 R.ef) d2)
theorem pd_tup {x1} (h : PDs X C es ms) : PD X C (.Tuple es x1 pos) (mTup ms) := by
  obtain ⟨ta, p1, q1⟩ := h.ex
  refine ⟨_, pe_tup p1, fun A E G σ H Q r G' R hm p => ?_⟩
  show ta σ H fun xs H1 => xs.length ≤ sizeLine ∧ ∀ p, H1 p = none → Q (.ref p) (upd H1 p (.tup xs))
  refine goDs q1 R hm p.err fun ds G1 vs H1 e1 R1 d1 hm1 => ?_
  obtain ⟨z, hz, rfl, rfl⟩ := Rd.lift_cases hm1
  split at hz
  · rename_i hl
    cases hz
    have hl' : vs.length ≤ sizeLine := by rw [d1.length]; exact sz hl
    refine ⟨hl', fun a n => p _ _ (e1.trans (Kept.new n).ext) ((Kept.new n).jr R1.jr) (.tup upd_same hl' (d1.kept (Kept.new n)))⟩
  · cases hz
theorem own_lst {K : PySem.W.Frag} {H : Hp} {A : Addr → Prop} {l : Addr} {xs : List V} {ds : List PyData} (n : H l = none) (hz : xs.length ≤ sizeLine) (h : Dvs K H A xs ds) : OwnAt K (upd H l (.lst xs)) (fun a => A a ∨ a = l) l (.list ds) :=
  ⟨xs, upd_same, hz, (h.wide (A' := fun a => A a ∨ a = l) fun a q => q.elim .inl fun z => .inr (by rw [z]; exact n)).kept (Kept.new n)⟩
theorem pf_lst (h : PDs X C es ms) : PF X C (.List es pos) (mLst ms) := by
  obtain ⟨ta, p1, q1⟩ := h.ex
  refine ⟨_, pe_lst p1, fun A E G σ H Q r G' R hm p => ?_⟩
  show ta σ H fun xs H1 => xs.length ≤ sizeLine ∧ ∀ p, H1 p = none → Q (.ref p) (upd H1 p (.lst xs))
  refine goDs q1 R hm p.err fun ds G1 vs H1 e1 R1 d1 hm1 => ?_
  obtain ⟨z, hz, rfl, rfl⟩ := Rd.lift_cases hm1
  split at hz
  · rename_i hl
    cases hz
    have hl' : vs.length ≤ sizeLine := by rw [d1.length]; exact sz hl
    exact ⟨hl', fun a n => p _ _ (e1.free n) (e1.trans (Kept.new n).ext) ((Kept.new n).jr R1.jr) (own_lst n hl' d1)⟩
  · cases hz
end
end Zd
namespace Zd
open PySem L2
open PyProof.Rows hiding St

/-! ### keys: ints, texts, tuples of these -/
def keyK : PyData → Option Key
  | .int i => some (.inl i)
  | .str x => some (.inr x)
  | _ => none
def keysK : List PyData → Option (List Key)
  | [] => some []
  | d :: r => (keyK d).bind fun k => (keysK r).map (k :: ·)
def keyOf : PyData → Option GK
  | .int i => some (.inl (.inl i))
  | .str x => some (.inl (.inr x))
  | .tuple ds => (keysK ds).map .inr
  | _ => none
def likeG : GK → GK → Bool
  | .inl _, .inl _ => true
  | .inr _, .inr _ => true
  | _, _ => false
/-- all keys are of k's kind -/
def fitB (kvs : List (PyData × PyData)) (k : GK) : Bool := kvs.all fun p => match keyOf p.1 with
  | some j => likeG j k
  | none => false
def getD (kvs : List (PyData × PyData)) (k : GK) : Option PyData := (kvs.find? fun p => decide (keyOf p.1 = some k)).map (·.2)
/-- v is the key k -/
def KeyAt (H : Hp) (v : V) : GK → Prop
  | .inl k => v = L2.kV k
  | .inr ks => ks.length ≤ sizeLine ∧ ∃ b, v = .ref b ∧ H b = some (.tup (ks.map L2.kV))
theorem keyK_keyD (k : Key) : keyK (keyD k) = some k := by cases k <;> rfl
theorem keysK_keyD : ∀ ks : List Key, keysK (ks.map keyD) = some ks
  | [] => rfl
  | k :: ks => by
    rw [List.map_cons]
    unfold keysK
    rw [keyK_keyD, keysK_keyD ks]
    rfl
theorem keyOf_keyG (k : GK) : keyOf (keyG k) = some k := by
  cases k with
  | inl k => cases k <;> rfl
  | inr ks =>
    show (keysK (ks.map keyD)).map Sum.inr = _
    rw [keysK_keyD] <;> rfl
theorem keyK_some {d : PyData} {k : Key} (h : keyK d = some k) : d = keyD k := by
  cases d <;> simp_all [keyK] <;> subst h <;> rfl
theorem keysK_some : ∀ {ds : List PyData} {ks : List Key}, keysK ds = some ks → ds = ks.map keyD
  | [], _, h => by cases h; rfl
  | d :: r, _, h => by
    obtain ⟨k, h1, h2⟩ := Option.bind_eq_some_iff.mp h
    obtain ⟨ks, h3, h4⟩ := Option.map_eq_some_iff.mp h2
    subst h4
    rw [keyK_some h1, keysK_some h3] <;> rfl
theorem keyOf_some {d : PyData} {k : GK} (h : keyOf d = some k) : d = keyG k := by
  cases d with
  | int i => cases h; rfl
  | str x => cases h; rfl
  | tuple ds =>
    obtain ⟨ks, h1, h2⟩ := Option.map_eq_some_iff.mp h
    subst h2
    rw [keysK_some h1] <;> rfl
  | _ => cases h
section
variable {K : PySem.W.Frag} {H H' : Hp} {A : Addr → Prop}
theorem KeyAt.keep {v : V} {k : GK} (t : Tups H H') (h : KeyAt H v k) : KeyAt H' v k := by
  cases k with
  | inl k => exact h
  | inr ks => obtain ⟨z, b, h1, h2⟩ := h; exact ⟨z, b, h1, t _ _ h2⟩
theorem Dv.keyV {v : V} {k : Key} (a : Dv K H A v (keyD k)) : v = L2.kV k := by
  cases k <;> cases a <;> rfl
theorem Dvs.keysV : ∀ {ks : List Key} {vs : List V}, Dvs K H A vs (ks.map keyD) → vs = ks.map L2.kV
  | [], _, .nil => rfl
  | _ :: _, _, .cons a b => by rw [a.keyV, Dvs.keysV b] <;> rfl
theorem Dvs.of_keys : ∀ ks : List Key, Dvs K H A (ks.map L2.kV) (ks.map keyD)
  | [] => .nil
  | .inl i :: ks => .cons (.int i) (Dvs.of_keys ks)
  | .inr x :: ks => .cons (.str x) (Dvs.of_keys ks)
theorem Dv.key {v : V} {d : PyData} {k : GK} (a : Dv K H A v d) (h : keyOf d = some k) : KeyAt H v k := by
  have e := keyOf_some h
  subst e
  cases k with
  | inl k => exact a.keyV
  | inr ks =>
    cases (show Dv K H A v (.tuple (ks.map keyD)) from a) with
    | tup e z q =>
      have := q.keysV
      subst this
      exact ⟨by rw [List.length_map] at z; exact z, _, rfl, e⟩
/-- the key is data -/
theorem KeyAt.dv {v : V} {k : GK} (h : KeyAt H v k) : Dv K H A v (keyG k) := by
  cases k with
  | inl k =>
    cases (show v = L2.kV k from h)
    cases k with
    | inl i => exact .int i
    | inr x => exact .str x
  | inr ks =>
    obtain ⟨z, b, rfl, h2⟩ := h
    exact .tup h2 (by rw [List.length_map]; exact z) (Dvs.of_keys ks)
theorem Bv.key {B : Amb} {v : V} {d : PyData} {k : GK} (b : Bv K B H A v d) (h : keyOf d = some k) : KeyAt H v k := by
  cases b with
  | d a => exact a.key h
  | own n q =>
    cases d with
    | list _ => cases h
    | dict _ => cases h
    | _ => exact q.elim
theorem Dvk.val : ∀ {ks : List (GK × V)} {kvs : List (PyData × PyData)} {k : GK}, Dvk K H A ks kvs →
    (getD kvs k = none ∧ valV ks k = none) ∨ ∃ d v, getD kvs k = some d ∧ valV ks k = some v ∧ Dv K H A v d
  | _, _, _, .nil => .inl ⟨rfl, rfl⟩
  | _, _, k, .cons (k := k') (v := v) (d := d) (kvs := r) a b => by
    by_cases e : k' = k
    · subst e
      refine .inr ⟨d, v, ?_, valV_pos rfl, a⟩
      simp [getD, keyOf_keyG]
    · have e1 : getD ((keyG k', d) :: r) k = getD r k := by
        unfold getD
        rw [List.find?_cons_of_neg (by simp [keyOf_keyG, e])]
      rw [e1, valV_neg (p := (k', v)) e]
      exact Dvk.val b
theorem Dvk.isSome {ks : List (GK × V)} {kvs : List (PyData × PyData)} {k : GK} (q : Dvk K H A ks kvs) : (valV ks k).isSome = (getD kvs k).isSome := by
  rcases q.val (k := k) with ⟨e1, e2⟩ | ⟨d, v, e1, e2, _⟩ <;> rw [e1, e2] <;> rfl
theorem Dvk.fit {k : GK} : ∀ {ks : List (GK × V)} {kvs : List (PyData × PyData)}, Dvk K H A ks kvs → fitB kvs k = true → ∀ p ∈ ks, likeG p.1 k = true
  | _, _, .nil, _ => fun p hp => nomatch hp
  | _, _, .cons a b, h => fun p hp => by
    unfold fitB at h
    rw [List.all_cons, Bool.and_eq_true, keyOf_keyG] at h
    rcases List.mem_cons.mp hp with e | hp
    · subst e; exact h.1
    · exact Dvk.fit b h.2 p hp
theorem Dvk.len : ∀ {ks : List (GK × V)} {kvs : List (PyData × PyData)}, Dvk K H A ks kvs → ks.length = kvs.length
  | _, _, .nil => rfl
  | _, _, .cons _ q => congrArg (· + 1) (Dvk.len q)
end
theorem valV_inl (k : Key) : ∀ ls : List (Key × V), valV (ls.map fun p => ((.inl p.1 : GK), p.2)) (.inl k) = valV ls k
  | [] => rfl
  | p :: ls => by
    rw [List.map_cons]
    by_cases e : p.1 = k
    · rw [valV_pos e, valV_pos (p := ((.inl p.1 : GK), p.2)) (by rw [e])]
    · rw [valV_neg e, valV_neg (p := ((.inl p.1 : GK), p.2)) (fun z => e (Sum.inl.inj z)), valV_inl k ls]
theorem valV_inr (k : List Key) : ∀ ls : List (List Key × V), valV (ls.map fun p => ((.inr p.1 : GK), p.2)) (.inr k) = valV ls k
  | [] => rfl
  | p :: ls => by
    rw [List.map_cons]
    by_cases e : p.1 = k
    · rw [valV_pos e, valV_pos (p := ((.inr p.1 : GK), p.2)) (by rw [e])]
    · rw [valV_neg e, valV_neg (p := ((.inr p.1 : GK), p.2)) (fun z => e (Sum.inr.inj z)), valV_inr k ls]
theorem putK_inl (k : Key) (v : V) (ls : List (Key × V)) : putK (ls.map fun p => ((.inl p.1 : GK), p.2)) (.inl k) v = (putK ls k v).map fun p => ((.inl p.1 : GK), p.2) := by
  unfold putK
  rw [valV_any, valV_any, valV_inl]
  split
  · rw [List.map_map, List.map_map]
    refine List.map_congr_left fun p _ => ?_
    by_cases e : p.1 = k
    · simp [e]
    · simp [e]
  · rw [List.map_append]; rfl
theorem putK_inr (k : List Key) (v : V) (ls : List (List Key × V)) : putK (ls.map fun p => ((.inr p.1 : GK), p.2)) (.inr k) v = (putK ls k v).map fun p => ((.inr p.1 : GK), p.2) := by
  unfold putK
  rw [valV_any, valV_any, valV_inr]
  split
  · rw [List.map_map, List.map_map]
    refine List.map_congr_left fun p _ => ?_
    by_cases e : p.1 = k
    · simp [e]
    · simp [e]
  · rw [List.map_append]; rfl
theorem putK_ne {κ : Type} [DecidableEq κ] (ls : List (κ × V)) (k : κ) (v : V) : putK ls k v ≠ [] := by
  unfold putK
  split
  · rename_i h
    cases ls with
    | nil => cases h
    | cons _ _ => simp
  · simp
theorem putK_keys {κ : Type} [DecidableEq κ] (ls : List (κ × V)) (k : κ) (v : V) : ∀ p ∈ putK ls k v, p.1 = k ∨ ∃ q ∈ ls, q.1 = p.1 := fun p hp => by
  unfold putK at hp
  split at hp
  · obtain ⟨q, h1, h2⟩ := List.mem_map.mp hp
    refine .inr ⟨q, h1, ?_⟩
    rw [← h2]
    split <;> rfl
  · rcases List.mem_append.mp hp with h | h
    · exact .inr ⟨p, h, rfl⟩
    · rw [List.mem_singleton.mp h]; exact .inl rfl

/-! ### what stands in the heap behind a dict that is read -/
section
variable {X : Cx} {pins : List (Addr × Obj)} {σ : L2.St} {H : Hp} {s : Shared} {a : Addr} {y v : V} {u r : Value} {A : Around} {E : Value → Shared → Prop} {ks : List (GK × V)} {k : GK}
/-- what a key meets -/
def Meet (X : Cx) (s : Shared) (a : Addr) (u : Value) (o : Option V) : Prop := (a == sysModules) = false ∧
  ((∃ kk vs, RelV (L2.kV kk) u ∧ s.heap.DictOf (mixKind X.prog X.w) a vs ∧ RelO o (valueAt vs kk)) ∨ ∃ kk b xs, u = .ref b ∧ (tupleKind (mixKind X.prog X.w)).is s.heap kk b ∧ s.heap.DictOfH (tupleKind (mixKind X.prog X.w)) a xs ∧ RelO o ((atKey xs kk).map (·.2)))
theorem emptyH (h : s.heap.DictOf (mixKind X.prog X.w) a []) : s.heap.DictOfH (tupleKind (mixKind X.prog X.w)) a [] := by
  obtain ⟨o, es, ep, h1, h2, h3, h4, h5, h6⟩ := h
  refine ⟨o, es, ep, h1, h2, h3, ?_, (fun x hx => nomatch hx), List.nodup_nil⟩
  have := h5.length
  exact List.length_eq_zero_iff.mp (by simpa using this)
theorem rd_look (I : Inv X pins σ H s) (g : RDct H a ks) (hk : KeyAt H y k) (ry : RelV y u) (hf : ∀ p ∈ ks, likeG p.1 k = true) : Meet X s a u (valV ks k) := by
  obtain ⟨o, g, q⟩ := g
  rcases q with ⟨ls, rfl, rfl⟩ | ⟨ls, rfl, ne, hz, rfl⟩
  · obtain ⟨z, hd, vs, rel, dd⟩ := dk_rd I.hok g
    cases k with
    | inl kk =>
      cases (show y = L2.kV kk from hk)
      exact ⟨hd, .inl ⟨kk, vs, ry, dd, by rw [valV_inl]; exact rel.val kk⟩⟩
    | inr kk =>
      obtain ⟨_, b, rfl, hb⟩ := hk
      cases (show u = Value.ref b from ry)
      cases ls with
      | nil =>
        cases rel
        exact ⟨hd, .inr ⟨kk, b, [], rfl, key_of I.hok hb, emptyH dd, trivial⟩⟩
      | cons p ls => cases hf _ List.mem_cons_self
  · cases k with
    | inl kk =>
      cases ls with
      | nil => exact absurd rfl ne
      | cons p ls => cases hf _ List.mem_cons_self
    | inr kk =>
      obtain ⟨_, b, rfl, hb⟩ := hk
      cases (show u = Value.ref b from ry)
      obtain ⟨z, hd, xs, rel, dd⟩ := dt_rd I.hok g
      exact ⟨hd, .inr ⟨kk, b, xs, rfl, key_of I.hok hb, dd, by rw [valV_inr]; exact rel.val kk⟩⟩
theorem z_item {Q : Value → Shared → Prop} (hu : A.units + 1 < cLine) (I : Inv X pins σ H s) (g : Meet X s a u (some v)) (h : ∀ w' s', Inv X pins σ H s' → RelV v w' → Q w' s') : wpAny (model X.prog X.w) A (getItem (.ref a) u) Q E s := by
  rcases g with ⟨hd, ⟨kk, vs, ry, dd, l⟩ | ⟨kk, b, xs, rfl, hb, dd, l⟩⟩
  · obtain ⟨w', hw, rw'⟩ := RelO.some_of l
    exact wpAny_getItem_of (kV_is ry) dd.mapOf hw (h w' _ (I.tok _) rw')
  · obtain ⟨w', hw, rw'⟩ := RelO.some_of l
    obtain ⟨p, hp, hp2⟩ := Option.map_eq_some_iff.mp hw
    refine wpAny_getItem_heap (tupleKind_room_in1 hu) hb dd hp ?_
    rw [hp2]
    exact h w' _ (I.tok _) rw'
theorem z_in {o : Option V} {Q : Value → Shared → Prop} (hu : A.units + 1 < cLine) (I : Inv X pins σ H s) (g : Meet X s a u o) (h : ∀ s', Inv X pins σ H s' → Q (.bool o.isSome) s') : wpAny (model X.prog X.w) A (compareOp .In u (.ref a)) Q E s := by
  rcases g with ⟨hd, ⟨kk, vs, ry, dd, l⟩ | ⟨kk, b, xs, rfl, hb, dd, l⟩⟩
  · refine wpAny_in_of (kV_is ry) hd dd.mapOf ?_
    rw [← l.isSome_eq]
    exact h _ (I.tok _)
  · refine wpAny_in_heap (tupleKind_room_in1 hu) hb hd dd ?_
    have q := l.isSome_eq
    rw [Option.isSome_map] at q
    rw [← q]
    exact h _ (I.tok _)
theorem z_nin {o : Option V} {Q : Value → Shared → Prop} (hu : A.units + 1 < cLine) (I : Inv X pins σ H s) (g : Meet X s a u o) (h : ∀ s', Inv X pins σ H s' → Q (.bool (!o.isSome)) s') : wpAny (model X.prog X.w) A (compareOp .NotIn u (.ref a)) Q E s := by
  rcases g with ⟨hd, ⟨kk, vs, ry, dd, l⟩ | ⟨kk, b, xs, rfl, hb, dd, l⟩⟩
  · refine wpAny_notIn_of (kV_is ry) hd dd.mapOf ?_
    rw [← l.isSome_eq]
    exact h _ (I.tok _)
  · refine wpAny_notIn_heap (tupleKind_room_in1 hu) hb hd dd ?_
    have q := l.isSome_eq
    rw [Option.isSome_map] at q
    rw [← q]
    exact h _ (I.tok _)
/-- an empty dict is one of either kind -/
theorem retag (I : Inv X pins σ H s) (e : H a = some (.dK [])) : Inv X pins σ (upd H a (.dT [])) s := by
  obtain ⟨z, hd, vs, rel, dd⟩ := dk_of I.hok e
  cases rel
  obtain ⟨o, es, ep, h1, h2, h3, h4, _, h6⟩ := emptyH dd
  exact I.write (x := a) (e := a) (t' := s.toks) (h' := s.heap) (by rw [e]; exact True.intro) (.inl rfl) (fun b u _ q => q) ⟨_, h1⟩ ⟨Nat.zero_le _, hd, [], .nil, o, es, ep, h1, h2, h3, h4, h6⟩
/-- d[y] = v, as the heaps tell it -/
def ZPut (H : Hp) (a : Addr) (y v : V) (H' : Hp) : Prop := DPut H a y v H' ∨ (H a = some (.dK []) ∧ ∃ k b, y = .ref b ∧ H b = some (.tup (k.map L2.kV)) ∧ H' = upd H a (.dT [(k, v)]))
theorem zput_retag {H' : Hp} (g : ZPut H a y v H') : DPut H a y v H' ∨ (H a = some (.dK []) ∧ DPut (upd H a (.dT [])) a y v H') := by
  rcases g with g | ⟨e, k, b, rfl, eb, rfl⟩
  · exact .inl g
  · refine .inr ⟨e, .inr ⟨[], k, b, upd_same, rfl, ?_, Nat.lt_of_lt_of_le (by decide : 0 < 1) (by rw [sizeLine_eq]; decide), ?_⟩⟩
    · rw [upd_ne (ne_of eb e (fun z => nomatch z))]; exact eb
    · rw [upd_upd]; rfl
theorem z_set {H' : Hp} {Q : Unit → Shared → Prop} (hu : A.units + 1 < cLine) (I : Inv X pins σ H s) (g : ZPut H a y v H') (ry : RelV y u) (rv : RelV v r) (h : ∀ s', Inv X pins σ H' s' → Q () s') : wpAny (model X.prog X.w) A (setItem (.ref a) u r) Q E s := by
  rcases zput_retag g with g | ⟨e, g⟩
  · exact d_setItem hu I g ry rv h
  · exact d_setItem hu (retag I e) g ry rv h
/-- .. in a comprehension -/
theorem z_dset {H' : Hp} {Q : Unit → Shared → Prop} (hu : A.units + 1 < cLine) (I : Inv X pins σ H s) (g : ZPut H a y v H') (ry : RelV y u) (rv : RelV v r) (h : ∀ s', Inv X pins σ H' s' → Q () s') : wpAny (model X.prog X.w) A (dictSet a u r) Q E s := by
  have go : ∀ {H0 : Hp}, Inv X pins σ H0 s → DPut H0 a y v H' → wpAny (model X.prog X.w) A (dictSet a u r) Q E s := fun {H0} I g => by
    rcases g with ⟨kvs, k, e, ey, l, eH⟩ | ⟨kvs, k, b, e, ey, eb, l, eH⟩
    · subst ey eH
      obtain ⟨z, hd, vs, rel, dd⟩ := dk_of I.hok e
      refine wpAny_dictSet_pairs (hsz := by rw [← rel.length]; exact z) (kV_is ry) dd fun h' dd' hs => h _ ?_
      have hl : (putK kvs k v).length ≤ sizeLine := by have := length_putK kvs k v; omega
      exact d_write I (by rw [e]; exact True.intro) hs (let ⟨q, _, _, hq, _⟩ := dd'; ⟨q, hq⟩) (dk_new hl hd (rel.put k rv) dd')
    · subst ey eH
      cases (show u = Value.ref b from ry)
      obtain ⟨z, hd, xs, rel, dd⟩ := dt_of I.hok e
      have hl : (putK kvs k v).length ≤ sizeLine := by have := length_putK kvs k v; omega
      refine wpAny_dictSet_heap (hsz := by rw [← Paired.length rel]; exact z) (by show A.units < cLine; omega) (key_of I.hok eb) dd fun h' dd' hs => h _ ?_
      obtain ⟨q, es, ep, hq, h2, h3, h4, _, h5⟩ := dd'
      refine d_write I (by rw [e]; exact True.intro) hs ⟨q, hq⟩ ⟨hl, hd, _, (rel.put k eb rv).keeps fun c ys ec => ?_, q, es, ep, hq, h2, h3, h4, h5⟩
      rw [upd_ne (ne_of ec e (fun z => nomatch z))]
      exact ec
  rcases zput_retag g with g | ⟨e, g⟩
  · exact go I g
  · exact go (retag I e) g
/-- a put is there for each key of the dict's kind -/
theorem zput_of (g : HDct H a ks) (hk : KeyAt H y k) (hf : ∀ p ∈ ks, likeG p.1 k = true) (hl : ks.length < sizeLine) : ∃ o, ZPut H a y v (upd H a o) ∧ HOd o (putK ks k v) := by
  obtain ⟨o, e, q⟩ := g
  rcases q with ⟨ls, rfl, rfl⟩ | ⟨ls, rfl, ne, hz, rfl⟩
  · cases k with
    | inl kk =>
      cases (show y = L2.kV kk from hk)
      exact ⟨.dK (putK ls kk v), .inl (.inl ⟨ls, kk, e, rfl, by rw [List.length_map] at hl; exact hl, rfl⟩), .inl ⟨_, rfl, putK_inl kk v ls⟩⟩
    | inr kk =>
      obtain ⟨z, b, rfl, hb⟩ := hk
      cases ls with
      | nil => exact ⟨.dT [(kk, v)], .inr ⟨e, kk, b, rfl, hb, rfl⟩, .inr ⟨_, rfl, by simp, by simpa using z, rfl⟩⟩
      | cons p ls => cases hf _ List.mem_cons_self
  · cases k with
    | inl kk =>
      cases ls with
      | nil => exact absurd rfl ne
      | cons p ls => cases hf _ List.mem_cons_self
    | inr kk =>
      obtain ⟨z, b, rfl, hb⟩ := hk
      refine ⟨.dT (putK ls kk v), .inl (.inr ⟨ls, kk, b, e, rfl, hb, by rw [List.length_map] at hl; exact hl, rfl⟩), .inr ⟨_, rfl, putK_ne _ _ _, fun p hp => ?_, putK_inr kk v ls⟩⟩
      rcases putK_keys ls kk v p hp with h | ⟨q, h1, h2⟩
      · rw [h]; exact z
      · rw [← h2]; exact hz q h1
theorem hod_nil : HOd (.dK []) [] := .inl ⟨[], rfl, rfl⟩
theorem hod_ne {o : HO} (h : HOd o ks) : (∀ xs, o ≠ .tup xs) ∧ (∀ xs, o ≠ .lst xs) ∧ ∀ p u, o ≠ .frz p u := by
  rcases h with ⟨ls, rfl, _⟩ | ⟨ls, rfl, _⟩ <;> exact ⟨(fun _ z => nomatch z), (fun _ z => nomatch z), (fun _ _ z => nomatch z)⟩
end
end Zd

set_option maxRecDepth 100000
set_option maxHeartbeats 4000000
namespace Zd
open PySem L2 PyProof.Rows

def SZ : Nat := 100000
def addD : PyData → PyData → Option PyData
  | .int i, .int j => some (.int (i + j))
  | .str x, .str y => if x.length + y.length ≤ 100000 then some (.str (x ++ y)) else none
  | .tuple xs, .tuple ys => if xs.length + ys.length ≤ 100000 then some (.tuple (xs ++ ys)) else none
  | _, _ => none
def catD : PyData → PyData → Option PyData
  | .list xs, .list ys => if xs.length + ys.length ≤ 100000 then some (.list (xs ++ ys)) else none
  | _, _ => none
def subD : PyData → PyData → Option PyData
  | .int i, .int j => some (.int (i - j))
  | _, _ => none
def mulD : PyData → PyData → Option PyData
  | .int i, .int j => if decide (i.natAbs < 2 ^ 64) || decide (j.natAbs < 2 ^ 64) then some (.int (i * j)) else none
  | _, _ => none
def fdivD : PyData → PyData → Option PyData
  | .int i, .int j => if 0 < j ∧ j < 1073741824 then some (.int (i / j)) else none
  | _, _ => none
def modD : PyData → PyData → Option PyData
  | .int i, .int j => if 0 < j then some (.int (i % j)) else none
  | _, _ => none
def powD : PyData → PyData → Option PyData
  | .int i, .int j => if 0 ≤ j ∧ j ≤ 1000000 ∧ i.natAbs < 2 ^ 64 then some (.int (i ^ j.toNat)) else none
  | _, _ => none
def eqD (a b : PyData) : Option PyData := if SeqAt.shaped a && SeqAt.shaped b then some (.bool (PyData.eqv a b)) else match a, b with
  | .str x, .str y => some (.bool (x == y))
  | _, _ => none
def neD (a b : PyData) : Option PyData := if SeqAt.shaped a && SeqAt.shaped b then some (.bool (!PyData.eqv a b)) else match a, b with
  | .str x, .str y => some (.bool (!(x == y)))
  | _, _ => none
/-- ints, a bool as its int, texts, tuples of ints -/
def intsOf : List PyData → Option (List Int)
  | [] => some []
  | .int i :: r => (intsOf r).map (i :: ·)
  | _ :: _ => none
def ltD : PyData → PyData → Option PyData
  | .int i, .int j => some (.bool (decide (i < j)))
  | .str x, .str y => some (.bool (decide (x.cps.toList < y.cps.toList)))
  | .tuple xs, .tuple ys => match intsOf xs, intsOf ys with
    | some ns, some ms => some (.bool (HT.lexLt ns ms))
    | _, _ => none
  | _, _ => none
def leD : PyData → PyData → Option PyData
  | .int i, .int j => some (.bool (decide (i ≤ j)))
  | _, _ => none
def gtD : PyData → PyData → Option PyData
  | .int i, .int j => some (.bool (decide (j < i)))
  | _, _ => none
def geD : PyData → PyData → Option PyData
  | .int i, .int j => some (.bool (decide (j ≤ i)))
  | _, _ => none
/-- whether a text is within another one -/
def subS (x y : Str) : Bool := !(Builtin.Str.occurrences y x 0 y.length 1).isEmpty
def inB : PyData → PyData → Option Bool
  | .str x, .str y => some (subS x y)
  | d, .list ds => if SeqAt.shaped d && SeqAt.shaped (.list ds) then some (ds.any fun z => PyData.eqv z d) else none
  | d, .tuple ds => if SeqAt.shaped d && SeqAt.shaped (.tuple ds) then some (ds.any fun z => PyData.eqv z d) else none
  | d, .dict kvs => (keyOf d).bind fun k => if fitB kvs k then some (getD kvs k).isSome else none
  | _, _ => none
def inD (a b : PyData) : Option PyData := (inB a b).map .bool
def ninD (a b : PyData) : Option PyData := (inB a b).map fun k => .bool (!k)
def isNone : PyData → Bool
  | .none => true
  | _ => false
def isN (a b : PyData) : Option PyData := match b with
  | .none => some (.bool (isNone a))
  | _ => none
def isNN (a b : PyData) : Option PyData := match b with
  | .none => some (.bool (!isNone a))
  | _ => none

section
variable {C : Cn} {A : Addr → Prop} {H : Hp}
/-- the rule's answer, nothing being new -/
theorem fin {Q : VK} {v : V} {d : PyData} (k : ∀ v H', Kept H H' → Dv C.K H' A v d → Q v H') (h : Dv C.K H A v d) : Q v H := k v H (Kept.refl H) h
end
section
variable {X : Cx} {C : Cn}
theorem intMul {i j : Int} (h : (decide (i.natAbs < 2 ^ 64) || decide (j.natAbs < 2 ^ 64)) = true) : CMul i j := by
  simp only [Bool.or_eq_true, decide_eq_true_eq] at h
  unfold CMul
  omega
theorem o_add (hK : X.K = C.K) : OpR X (binaryOp .Add) (rZ2 C addD) := by
  intro pins s σ H x y v u Q I rx ry h
  obtain ⟨A, dx, dy, dz, trk, ef, bx, by', hg, k⟩ := h
  unfold addD at hg
  split at hg
  · cases hg
    cases bx.int; cases by'.int
    exact op_add pins s σ H _ _ v u Q I rx ry ⟨_, _, rfl, rfl, fin k (.int _)⟩
  · split at hg
    · rename_i hz
      cases hg
      cases bx.str; cases by'.str
      exact op_add_str pins s σ H _ _ v u Q I rx ry ⟨_, _, rfl, rfl, sz hz, fin k (.str _)⟩
    · cases hg
  · split at hg
    · rename_i xs ys hz
      cases hg
      obtain ⟨a, vs, rfl, h1, h2, h3⟩ := bx.tuple
      obtain ⟨b, ws, rfl, h4, h5, h6⟩ := by'.tuple
      have l1 := h3.length
      have l2 := h6.length
      refine op_catA pins s σ H _ _ v u Q I rx ry ⟨a, b, vs, ws, rfl, rfl, by rw [hK]; exact h1, by rw [hK]; exact h4, by rw [l1, l2]; exact sz hz, fun e => ?_, fun e1 e2 => ?_, fun e1 e2 p n => ?_⟩
      · subst e
        cases h3
        refine fin k ?_
        cases by' with
        | d q => exact q
        | own n q => exact q.elim
      · subst e2
        cases h6
        refine fin k ?_
        rw [List.append_nil]
        cases bx with
        | d q => exact q
        | own n q => exact q.elim
      · exact k _ _ (Kept.new n) (.tup upd_same (by rw [List.length_append, l1, l2]; exact sz hz) ((h3.append h6).kept (Kept.new n)))
    · cases hg
  · cases hg
theorem o_cat : OpR X (binaryOp .Add) (rZF C catD) := by
  intro pins s σ H x y v u Q I rx ry h
  obtain ⟨A, dx, dy, dz, trk, ef, bx, by', hg, k⟩ := h
  unfold catD at hg
  split at hg
  · split at hg
    · rename_i hz
      cases hg
      obtain ⟨a, vs, rfl, h1, h2, h3⟩ := bx.list
      obtain ⟨b, ws, rfl, h4, h5, h6⟩ := by'.list
      have hl : (vs ++ ws).length ≤ sizeLine := by rw [List.length_append, h3.length, h6.length]; exact sz hz
      exact op_cat pins s σ H _ _ v u Q I rx ry ⟨a, b, vs, ws, rfl, rfl, h1, h4, by rw [← List.length_append]; exact hl, fun p n => k p _ n (Kept.new n) (own_lst n hl (h3.append h6))⟩
    · cases hg
  · cases hg
theorem o_sub : OpR X (binaryOp .Sub) (rZ2 C subD) := by
  intro pins s σ H x y v u Q I rx ry h
  obtain ⟨A, dx, dy, dz, trk, ef, bx, by', hg, k⟩ := h
  unfold subD at hg
  split at hg
  · cases hg
    cases bx.int; cases by'.int
    exact op_sub pins s σ H _ _ v u Q I rx ry ⟨_, _, rfl, rfl, fin k (.int _)⟩
  · cases hg
theorem o_mul : OpR X (binaryOp .Mult) (rZ2 C mulD) := by
  intro pins s σ H x y v u Q I rx ry h
  obtain ⟨A, dx, dy, dz, trk, ef, bx, by', hg, k⟩ := h
  unfold mulD at hg
  split at hg
  · split at hg
    · rename_i hc
      cases hg
      cases bx.int; cases by'.int
      exact op_mul pins s σ H _ _ v u Q I rx ry ⟨_, _, rfl, rfl, intMul hc, fin k (.int _)⟩
    · cases hg
  · cases hg
theorem o_fdiv : OpR X (binaryOp .FloorDiv) (rZ2 C fdivD) := by
  intro pins s σ H x y v u Q I rx ry h
  obtain ⟨A, dx, dy, dz, trk, ef, bx, by', hg, k⟩ := h
  unfold fdivD at hg
  split at hg
  · split at hg
    · rename_i hc
      cases hg
      cases bx.int; cases by'.int
      exact op_fdiv pins s σ H _ _ v u Q I rx ry ⟨_, _, rfl, rfl, hc, fin k (.int _)⟩
    · cases hg
  · cases hg
theorem o_mod : OpR X (binaryOp .Mod) (rZ2 C modD) := by
  intro pins s σ H x y v u Q I rx ry h
  obtain ⟨A, dx, dy, dz, trk, ef, bx, by', hg, k⟩ := h
  unfold modD at hg
  split at hg
  · split at hg
    · rename_i hc
      cases hg
      cases bx.int; cases by'.int
      exact op_mod pins s σ H _ _ v u Q I rx ry ⟨_, _, rfl, rfl, hc, fin k (.int _)⟩
    · cases hg
  · cases hg
theorem o_pow : OpR X (binaryOp .Pow) (rZ2 C powD) := by
  intro pins s σ H x y v u Q I rx ry h
  obtain ⟨A, dx, dy, dz, trk, ef, bx, by', hg, k⟩ := h
  unfold powD at hg
  split at hg
  · split at hg
    · rename_i hc
      cases hg
      cases bx.int; cases by'.int
      exact op_pow pins s σ H _ _ v u Q I rx ry ⟨_, _, rfl, rfl, hc, fin k (.int _)⟩
    · cases hg
  · cases hg
theorem shaped_lay {d : PyData} (h : SeqAt.shaped d = true) : d.canLay0 = true := SeqAt.canLay_of_shaped h
theorem o_eq (hK : X.K = C.K) (hu : X.A.units + 64 < cLine) : OpR X (compareOp .Eq) (rZ2 C eqD) := by
  intro pins s σ H x y v u Q I rx ry h
  obtain ⟨A, dx, dy, dz, trk, ef, bx, by', hg, k⟩ := h
  unfold eqD at hg
  split at hg
  · rename_i hc
    cases hg
    rw [Bool.and_eq_true] at hc
    exact op_eqD hu pins s σ H _ _ v u Q I rx ry ⟨dx, dy, by rw [hK]; exact bx.dp (shaped_lay hc.1), by rw [hK]; exact by'.dp (shaped_lay hc.2), hc.1, hc.2, fin k (.bl _)⟩
  · split at hg
    · cases hg
      cases bx.str; cases by'.str
      exact op_eq pins s σ H _ _ v u Q I rx ry ⟨rfl, by rw [dec_str]; exact fin k (.bl _)⟩
    · cases hg
theorem o_ne (hK : X.K = C.K) (hu : X.A.units + 64 < cLine) : OpR X (compareOp .NotEq) (rZ2 C neD) := by
  intro pins s σ H x y v u Q I rx ry h
  obtain ⟨A, dx, dy, dz, trk, ef, bx, by', hg, k⟩ := h
  unfold neD at hg
  split at hg
  · rename_i hc
    cases hg
    rw [Bool.and_eq_true] at hc
    exact op_neD hu pins s σ H _ _ v u Q I rx ry ⟨dx, dy, by rw [hK]; exact bx.dp (shaped_lay hc.1), by rw [hK]; exact by'.dp (shaped_lay hc.2), hc.1, hc.2, fin k (.bl _)⟩
  · split at hg
    · cases hg
      cases bx.str; cases by'.str
      exact op_ne pins s σ H _ _ v u Q I rx ry ⟨rfl, by rw [dec_str]; exact fin k (.bl _)⟩
    · cases hg
theorem intsOf_some : ∀ {ds : List PyData} {ns : List Int}, intsOf ds = some ns → ds = ns.map PyData.int
  | [], _, h => by cases h; rfl
  | .int i :: r, _, h => by
    obtain ⟨ns, h1, h2⟩ := Option.map_eq_some_iff.mp h
    subst h2
    rw [intsOf_some h1] <;> rfl
  | .none :: _, _, h => by cases h
  | .bool _ :: _, _, h => by cases h
  | .str _ :: _, _, h => by cases h
  | .list _ :: _, _, h => by cases h
  | .tuple _ :: _, _, h => by cases h
  | .dict _ :: _, _, h => by cases h
theorem o_lt (hK : X.K = C.K) (hu : X.A.units < cLine) : OpR X (compareOp .Lt) (rZ2 C ltD) := by
  intro pins s σ H x y v u Q I rx ry h
  obtain ⟨A, dx, dy, dz, trk, ef, bx, by', hg, k⟩ := h
  unfold ltD at hg
  split at hg
  · cases hg
    cases bx.int; cases by'.int
    exact op_lt pins s σ H _ _ v u Q I rx ry ⟨_, _, rfl, rfl, fin k (.bl _)⟩
  · cases hg
    cases bx.str; cases by'.str
    exact op_lt_str pins s σ H _ _ v u Q I rx ry ⟨_, _, rfl, rfl, fin k (.bl _)⟩
  · split at hg
    · rename_i ns ms e1 e2
      cases hg
      obtain rfl := intsOf_some e1
      obtain rfl := intsOf_some e2
      obtain ⟨a, vs, rfl, h1, h2, h3⟩ := bx.tuple
      obtain ⟨b, ws, rfl, h4, h5, h6⟩ := by'.tuple
      obtain rfl := h3.of_ints
      obtain rfl := h6.of_ints
      exact op_ltT hu pins s σ H _ _ v u Q I rx ry ⟨a, b, ns, ms, rfl, rfl, by rw [hK]; exact h1, by rw [hK]; exact h4, fin k (.bl _)⟩
    · cases hg
  · cases hg
theorem o_le : OpR X (compareOp .LtE) (rZ2 C leD) := by
  intro pins s σ H x y v u Q I rx ry h
  obtain ⟨A, dx, dy, dz, trk, ef, bx, by', hg, k⟩ := h
  unfold leD at hg
  split at hg
  · cases hg
    cases bx.int; cases by'.int
    exact op_le pins s σ H _ _ v u Q I rx ry ⟨_, _, rfl, rfl, fin k (.bl _)⟩
  · cases hg
theorem o_gt : OpR X (compareOp .Gt) (rZ2 C gtD) := by
  intro pins s σ H x y v u Q I rx ry h
  obtain ⟨A, dx, dy, dz, trk, ef, bx, by', hg, k⟩ := h
  unfold gtD at hg
  split at hg
  · cases hg
    cases bx.int; cases by'.int
    exact op_gt pins s σ H _ _ v u Q I rx ry ⟨_, _, rfl, rfl, fin k (.bl _)⟩
  · cases hg
theorem o_ge : OpR X (compareOp .GtE) (rZ2 C geD) := by
  intro pins s σ H x y v u Q I rx ry h
  obtain ⟨A, dx, dy, dz, trk, ef, bx, by', hg, k⟩ := h
  unfold geD at hg
  split at hg
  · cases hg
    cases bx.int; cases by'.int
    exact op_ge pins s σ H _ _ v u Q I rx ry ⟨_, _, rfl, rfl, fin k (.bl _)⟩
  · cases hg

/-! ### in -/
theorem in_core {f : Bool → Value → Value → Sem Value} (hK : X.K = C.K)
    (hs : ∀ n : Bool, OpR X (f n) (fun x y H Q => ∃ i j, x = .str i ∧ y = .str j ∧ Q (.bl (if n then !subS i j else subS i j)) H))
    (hl : ∀ n : Bool, ∀ pins s σ H (Q : VK) v u d ds as bs, Inv X pins σ H s → Reads s.heap v d as → Reads s.heap u (.list ds) bs → SeqAt.shaped d = true → SeqAt.shaped (.list ds) = true → Q (.bl (if n then !ds.any (fun z => PyData.eqv z d) else ds.any fun z => PyData.eqv z d)) H → wpAny (model X.prog X.w) X.A (f n v u) (EP X pins σ Q) X.xe s)
    (ht : ∀ n : Bool, ∀ pins s σ H (Q : VK) v u d ds as bs, Inv X pins σ H s → Reads s.heap v d as → Reads s.heap u (.tuple ds) bs → SeqAt.shaped d = true → SeqAt.shaped (.tuple ds) = true → Q (.bl (if n then !ds.any (fun z => PyData.eqv z d) else ds.any fun z => PyData.eqv z d)) H → wpAny (model X.prog X.w) X.A (f n v u) (EP X pins σ Q) X.xe s)
    (hd : ∀ n : Bool, ∀ pins s σ H (Q : VK) a u o, Inv X pins σ H s → Meet X s a u o → Q (.bl (if n then !o.isSome else o.isSome)) H → wpAny (model X.prog X.w) X.A (f n u (.ref a)) (EP X pins σ Q) X.xe s)
    (n : Bool) : OpR X (f n) (rZ2 C fun a b => (inB a b).map fun k => .bool (if n then !k else k)) := by
  intro pins s σ H x y v u Q I rx ry h
  obtain ⟨A, dx, dy, dz, trk, ef, bx, by', hg, k⟩ := h
  obtain ⟨b, hb, rfl⟩ := Option.map_eq_some_iff.mp hg
  unfold inB at hb
  split at hb
  · cases hb
    cases bx.str; cases by'.str
    exact hs n pins s σ H _ _ v u Q I rx ry ⟨_, _, rfl, rfl, fin k (.bl _)⟩
  · split at hb
    · rename_i hc
      cases hb
      rw [Bool.and_eq_true] at hc
      obtain ⟨as, r1⟩ := Dp.reads I _ _ _ (by rw [hK]; exact bx.dp (shaped_lay hc.1)) rx
      obtain ⟨bs, r2⟩ := Dp.reads I _ _ _ (by rw [hK]; exact by'.dp (shaped_lay hc.2)) ry
      exact hl n pins s σ H Q v u _ _ as bs I r1 r2 hc.1 hc.2 (fin k (.bl _))
    · cases hb
  · split at hb
    · rename_i hc
      cases hb
      rw [Bool.and_eq_true] at hc
      obtain ⟨as, r1⟩ := Dp.reads I _ _ _ (by rw [hK]; exact bx.dp (shaped_lay hc.1)) rx
      obtain ⟨bs, r2⟩ := Dp.reads I _ _ _ (by rw [hK]; exact by'.dp (shaped_lay hc.2)) ry
      exact ht n pins s σ H Q v u _ _ as bs I r1 r2 hc.1 hc.2 (fin k (.bl _))
    · cases hb
  · rename_i kvs
    obtain ⟨ky, hk, hb⟩ := Option.bind_eq_some_iff.mp hb
    split at hb
    case isFalse => cases hb
    rename_i hfit
    cases hb
    obtain ⟨a, ks, rfl, h1, h2⟩ := by'.dict
    cases (show u = Value.ref a from ry)
    refine hd n pins s σ H Q a v _ I (rd_look I h1 (bx.key hk) rx (h2.fit hfit)) ?_
    rw [h2.isSome]
    exact fin k (.bl _)
  · cases hb
theorem o_in (hK : X.K = C.K) (hu : X.A.units + 65 < cLine) : OpR X (compareOp .In) (rZ2 C inD) := by
  have h := in_core (X := X) (C := C) (f := fun n => if n then compareOp .NotIn else compareOp .In) hK (fun n => ?_) (fun n pins s σ H Q v u d ds as bs I r1 r2 s1 s2 q => ?_) (fun n pins s σ H Q v u d ds as bs I r1 r2 s1 s2 q => ?_) (fun n pins s σ H Q a u o I g q => ?_) false
  · exact h
  · cases n
    · exact op_in_str
    · exact op_notin_str
  · cases n
    · exact SeqAt.in_list_reads r2 r1 (shaped_lay s2) (shaped_lay s1) (room_in_shaped s1 hu) ⟨.bl _, H, I, rfl, q⟩
    · exact SeqAt.notIn_list_reads r2 r1 (shaped_lay s2) (shaped_lay s1) (room_in_shaped s1 hu) ⟨.bl _, H, I, rfl, q⟩
  · cases n
    · exact SeqAt.in_tuple_reads r2 r1 (shaped_lay s2) (shaped_lay s1) (room_in_shaped s1 hu) ⟨.bl _, H, I, rfl, q⟩
    · exact SeqAt.notIn_tuple_reads r2 r1 (shaped_lay s2) (shaped_lay s1) (room_in_shaped s1 hu) ⟨.bl _, H, I, rfl, q⟩
  · cases n
    · exact z_in (by omega) I g fun s' I' => ⟨.bl _, H, I', rfl, q⟩
    · exact z_nin (by omega) I g fun s' I' => ⟨.bl _, H, I', rfl, q⟩
theorem o_nin (hK : X.K = C.K) (hu : X.A.units + 65 < cLine) : OpR X (compareOp .NotIn) (rZ2 C ninD) := by
  have h := in_core (X := X) (C := C) (f := fun n => if n then compareOp .NotIn else compareOp .In) hK (fun n => ?_) (fun n pins s σ H Q v u d ds as bs I r1 r2 s1 s2 q => ?_) (fun n pins s σ H Q v u d ds as bs I r1 r2 s1 s2 q => ?_) (fun n pins s σ H Q a u o I g q => ?_) true
  · exact h
  · cases n
    · exact op_in_str
    · exact op_notin_str
  · cases n
    · exact SeqAt.in_list_reads r2 r1 (shaped_lay s2) (shaped_lay s1) (room_in_shaped s1 hu) ⟨.bl _, H, I, rfl, q⟩
    · exact SeqAt.notIn_list_reads r2 r1 (shaped_lay s2) (shaped_lay s1) (room_in_shaped s1 hu) ⟨.bl _, H, I, rfl, q⟩
  · cases n
    · exact SeqAt.in_tuple_reads r2 r1 (shaped_lay s2) (shaped_lay s1) (room_in_shaped s1 hu) ⟨.bl _, H, I, rfl, q⟩
    · exact SeqAt.notIn_tuple_reads r2 r1 (shaped_lay s2) (shaped_lay s1) (room_in_shaped s1 hu) ⟨.bl _, H, I, rfl, q⟩
  · cases n
    · exact z_in (by omega) I g fun s' I' => ⟨.bl _, H, I', rfl, q⟩
    · exact z_nin (by omega) I g fun s' I' => ⟨.bl _, H, I', rfl, q⟩
/-! ### is -/
theorem Bv.isnon {B : Amb} {K : PySem.W.Frag} {H : Hp} {A : Addr → Prop} {v : V} {d : PyData} (b : Bv K B H A v d) : decide (v = .non) = isNone d := by
  cases b with
  | d q => cases q <;> rfl
  | own n q => cases d <;> first | rfl | exact q.elim
theorem o_is : OpR X (compareOp .Is) (rZ2 C isN) := by
  intro pins s σ H x y v u Q I rx ry h
  obtain ⟨A, dx, dy, dz, trk, ef, bx, by', hg, k⟩ := h
  unfold isN at hg
  split at hg
  · cases hg
    cases by'.non
    exact op_isN pins s σ H _ _ v u Q I rx ry ⟨rfl, by rw [bx.isnon]; exact fin k (.bl _)⟩
  · cases hg
theorem o_isnot : OpR X (compareOp .IsNot) (rZ2 C isNN) := by
  intro pins s σ H x y v u Q I rx ry h
  obtain ⟨A, dx, dy, dz, trk, ef, bx, by', hg, k⟩ := h
  unfold isNN at hg
  split at hg
  · cases hg
    cases by'.non
    refine op_notN pins s σ H _ _ v u Q I rx ry ⟨rfl, ?_⟩
    rw [bx.isnon]
    exact fin k (.bl _)
  · cases hg
end
end Zd

set_option maxRecDepth 100000
set_option maxHeartbeats 4000000
namespace Zd
open PySem L2
open PyProof.Rows hiding St

/-! ### built-in calls -/
abbrev Bvs (K : PySem.W.Frag) (B : Amb) (H : Hp) (A : Addr → Prop) : List V → List PyData → Prop := Paired (Bv K B H A)
theorem Bvs.ext {K : PySem.W.Frag} {B : Amb} {H H' : Hp} {A : Addr → Prop} {vs : List V} {ds : List PyData} (e : Ext B H H') (h : ∀ a, efs B a → A a) (x : Bvs K B H A vs ds) : Bvs K B H' A vs ds := Paired.mapP x fun _ _ q => q.ext e h
def PostBs (C : Cn) (A : Addr → Prop) (H : Hp) (r : Except Exn (List PyData)) (G' : Rng) (Q : List V → Hp → Prop) : Prop :=
  match r with
  | .ok es => ∀ vs H', Ext C.B H H' → JR C.B G' H' → Bvs C.K C.B H' A vs es → Q vs H'
  | .error x => PErr C A H x G'
structure PBs (X : Cx) (C : Cn) (es : List Expr) (m : Rd (List PyData)) : Prop where
  ex : ∃ ta, PA X es ta ∧ ∀ A E G σ H Q r G', Rel C.K C.B A E G σ H → m E G = some (r, G') → PostBs C A H r G' Q → ta σ H Q
def rZn (C : Cn) (g : List PyData → Option PyData) : List V → Hp → VK → Prop := fun vs H Q => ∃ A ds dz, (∀ a, A a → H a ≠ none) ∧ (∀ a, efs C.B a → A a) ∧ Bvs C.K C.B H A vs ds ∧ g ds = some dz ∧
  ∀ v H', Kept H H' → Dv C.K H' A v dz → Q v H'
def rZnF (C : Cn) (g : List PyData → Option PyData) : List V → Hp → VK → Prop := fun vs H Q => ∃ A ds dz, (∀ a, A a → H a ≠ none) ∧ (∀ a, efs C.B a → A a) ∧ Bvs C.K C.B H A vs ds ∧ g ds = some dz ∧
  ∀ p H', H p = none → Kept H H' → OwnAt C.K H' (fun a => A a ∨ a = p) p dz → Q (.ref p) H'
def mCallB (g : List PyData → Option PyData) (ms : Rd (List PyData)) : Rd PyData := ms.bind fun ds => Rd.lift (g ds)
section
variable {X : Cx} {C : Cn} {pos p : Pos} {e : Expr} {es : List Expr} {m : Rd PyData} {ms : Rd (List PyData)} {g : List PyData → Option PyData} {x : Str} {id T : String}
theorem PostBs.err {C : Cn} {A : Addr → Prop} {H : Hp} {r : Except Exn (List PyData)} {G' : Rng} {Q : List V → Hp → Prop} (p : PostBs C A H r G' Q) : ∀ x, r = .error x → PErr C A H x G' := fun x e => by subst e; exact p
theorem goBs {C : Cn} {ta : TA} {m : Rd (List PyData)} {β : Type} {f : List PyData → Rd β} {A : Addr → Prop} {E : Evn} {G G' : Rng} {σ : St} {H : Hp} {Q : List V → Hp → Prop} {r : Except Exn β}
    (h : ∀ A E G σ H Q r G', Rel C.K C.B A E G σ H → m E G = some (r, G') → PostBs C A H r G' Q → ta σ H Q) (R : Rel C.K C.B A E G σ H) (hm : m.bind f E G = some (r, G'))
    (pe : ∀ x, r = .error x → PErr C A H x G') (k : ∀ d G1 v H1, Ext C.B H H1 → Rel C.K C.B A E G1 σ H1 → Bvs C.K C.B H1 A v d → f d E G1 = some (r, G') → Q v H1) : ta σ H Q := by
  rcases Rd.bind_cases hm with ⟨x, h1, h2⟩ | ⟨d, G1, h1, h2⟩
  · exact h A E G σ H Q _ _ R h1 (pe x h2)
  · exact h A E G σ H Q _ _ R h1 fun v H1 e j q => k d G1 v H1 e (R.ext e j) q h2
theorem pbs_nil : PBs X C [] mNil := by
  refine ⟨_, pa_nil, fun A E G σ H Q r G' R hm p => ?_⟩
  cases hm
  exact p [] H (Ext.refl _ _) R.jr .nil
theorem pbs_cons (h : PB X C e m) (hs : PBs X C es ms) (hst : starEach (e :: es) X.env = (false, eval e X.env) :: starEach es X.env := by rfl) : PBs X C (e :: es) (mCons m ms) := by
  obtain ⟨te, p1, q1⟩ := h.ex
  obtain ⟨ta, p2, q2⟩ := hs.ex
  refine ⟨_, pa_cons p1 p2 hst, fun A E G σ H Q r G' R hm p => ?_⟩
  show te σ H fun x H1 => ta σ H1 fun xs H2 => Q (x :: xs) H2
  refine goB q1 R hm p.err fun d G1 v H1 e1 R1 d1 hm1 => ?_
  refine goBs q2 R1 hm1 (fun x hx => (p.err x hx).ext e1) fun ds G2 vs H2 e2 R2 d2 hm2 => ?_
  cases hm2
  exact p _ H2 (e1.trans e2) R2.jr (.cons (d1.ext e2 R.ef) d2)
theorem callB_core {ta : TA} (h : ∀ A E G σ H Q r G', Rel C.K C.B A E G σ H → ms E G = some (r, G') → PostBs C A H r G' Q → ta σ H Q) :
    ∀ A E G σ H Q r G', Rel C.K C.B A E G σ H → mCallB g ms E G = some (r, G') → PostD C A H r G' Q → tCB (rZn C g) ta σ H Q := by
  intro A E G σ H Q r G' R hm p
  show ta σ H fun vs H1 => rZn C g vs H1 Q
  refine goBs h R hm p.err fun d G1 v H1 e1 R1 d1 hm1 => ?_
  obtain ⟨dz, hz, rfl, rfl⟩ := Rd.lift_cases hm1
  exact ⟨A, d, dz, R1.trk, R1.ef, d1, hz, fun v H' k q => p v H' (e1.trans k.ext) (k.jr R1.jr) q⟩
theorem callF_core {ta : TA} (h : ∀ A E G σ H Q r G', Rel C.K C.B A E G σ H → ms E G = some (r, G') → PostBs C A H r G' Q → ta σ H Q) :
    ∀ A E G σ H Q r G', Rel C.K C.B A E G σ H → mCallB g ms E G = some (r, G') → PostF C A H r G' Q → tCB (rZnF C g) ta σ H Q := by
  intro A E G σ H Q r G' R hm p
  show ta σ H fun vs H1 => rZnF C g vs H1 Q
  refine goBs h R hm p.err fun d G1 v H1 e1 R1 d1 hm1 => ?_
  obtain ⟨dz, hz, rfl, rfl⟩ := Rd.lift_cases hm1
  exact ⟨A, d, dz, R1.trk, R1.ef, d1, hz, fun v H' n k q => p v H' (e1.free n) (e1.trans k.ext) (k.jr R1.jr) q⟩
/-- f(e, ..), f a built-in function -/
theorem pd_callB (hc : CallR X (.builtin id) (rZn C g)) (hg : Gl X x) (hm : X.mg x = none) (hv : bootBuiltins x = some (.builtin id)) (ha : PBs X C (e :: es) ms) (hn : x ≠ "__name__" := by decide) (hdb : (x == ("__debug__" : Str)) = false := by decide)
    (he : starEach (e :: es) X.env = (false, eval e X.env) :: starEach es X.env := by rfl) (hpl : (backTo pos (starEach es X.env)).any (·.1) = false := by rfl) : PD X C (.Call (.Name x p) (e :: es) [] pos) (mCallB g ms) := by
  obtain ⟨ta, p1, q1⟩ := ha.ex
  exact ⟨_, pe_callB hc hg hm hv p1 hn hdb he hpl, callB_core q1⟩
/-- T(e, ..), T a built-in class -/
theorem pd_callTy (hc : CallR X (.type T) (rZn C g)) (hg : Gl X x) (hm : X.mg x = none) (hv : bootBuiltins x = some (.type T)) (ha : PBs X C (e :: es) ms) (hn : x ≠ "__name__" := by decide) (hdb : (x == ("__debug__" : Str)) = false := by decide)
    (he : starEach (e :: es) X.env = (false, eval e X.env) :: starEach es X.env := by rfl) (hpl : (backTo pos (starEach es X.env)).any (·.1) = false := by rfl) : PD X C (.Call (.Name x p) (e :: es) [] pos) (mCallB g ms) := by
  obtain ⟨ta, p1, q1⟩ := ha.ex
  exact ⟨_, pe_callTy hc hg hm hv p1 hn hdb he hpl, callB_core q1⟩
theorem pf_callB (hc : CallR X (.builtin id) (rZnF C g)) (hg : Gl X x) (hm : X.mg x = none) (hv : bootBuiltins x = some (.builtin id)) (ha : PBs X C (e :: es) ms) (hn : x ≠ "__name__" := by decide) (hdb : (x == ("__debug__" : Str)) = false := by decide)
    (he : starEach (e :: es) X.env = (false, eval e X.env) :: starEach es X.env := by rfl) (hpl : (backTo pos (starEach es X.env)).any (·.1) = false := by rfl) : PF X C (.Call (.Name x p) (e :: es) [] pos) (mCallB g ms) := by
  obtain ⟨ta, p1, q1⟩ := ha.ex
  exact ⟨_, pe_callB hc hg hm hv p1 hn hdb he hpl, callF_core q1⟩
theorem pf_callTy (hc : CallR X (.type T) (rZnF C g)) (hg : Gl X x) (hm : X.mg x = none) (hv : bootBuiltins x = some (.type T)) (ha : PBs X C (e :: es) ms) (hn : x ≠ "__name__" := by decide) (hdb : (x == ("__debug__" : Str)) = false := by decide)
    (he : starEach (e :: es) X.env = (false, eval e X.env) :: starEach es X.env := by rfl) (hpl : (backTo pos (starEach es X.env)).any (·.1) = false := by rfl) : PF X C (.Call (.Name x p) (e :: es) [] pos) (mCallB g ms) := by
  obtain ⟨ta, p1, q1⟩ := ha.ex
  exact ⟨_, pe_callTy hc hg hm hv p1 hn hdb he hpl, callF_core q1⟩
end

def lenF : List PyData → Option PyData
  | [.str x] => if x.length ≤ 100000 then some (.int x.length) else none
  | [.list ds] => some (.int ds.length)
  | [.tuple ds] => some (.int ds.length)
  | [.dict kvs] => some (.int kvs.length)
  | _ => none
def tupF : List PyData → Option PyData
  | [.list ds] => some (.tuple ds)
  | [.tuple ds] => some (.tuple ds)
  | _ => none
def lstF : List PyData → Option PyData
  | [.list ds] => some (.list ds)
  | [.tuple ds] => some (.list ds)
  | [.dict kvs] => some (.list (kvs.map (·.1)))
  | _ => none
def absF : List PyData → Option PyData
  | [.int i] => some (.int (if i < 0 then -i else i))
  | _ => none
def intF : List PyData → Option PyData
  | [.int i] => some (.int i)
  | [.bool b] => some (.int (if b then 1 else 0))
  | _ => none
def min2F : List PyData → Option PyData
  | [.int i, .int j] => some (.int (if j < i then j else i))
  | _ => none
def max2F : List PyData → Option PyData
  | [.int i, .int j] => some (.int (if j > i then j else i))
  | _ => none
def strF : List PyData → Option PyData
  | [.int i] => if i.natAbs.log2 < 1920 then some (.str (toString i)) else none
  | [.str x] => some (.str x)
  | _ => none
def boolsOf : List PyData → Option (List Bool)
  | [] => some []
  | .bool i :: r => (boolsOf r).map (i :: ·)
  | _ :: _ => none
def allF : List PyData → Option PyData
  | [.list ds] => (boolsOf ds).map fun bs => .bool (bs.all id)
  | _ => none
def anyF : List PyData → Option PyData
  | [.list ds] => (boolsOf ds).map fun bs => .bool (bs.any id)
  | _ => none
def maxI : List Int → Option Int
  | [] => none
  | n :: r => some (r.foldl max n)
def maxF : List PyData → Option PyData
  | [.list ds] => (intsOf ds).bind fun ns => (maxI ns).map .int
  | _ => none
def alikeB (ds : List PyData) : Bool := ds.all fun d => ds.all fun e => PySem.W.alike d e
def sortableB (ds : List PyData) : Bool := (ds.all fun d => match d with | .tuple (_ :: _) => true | _ => false) || ds.all fun d => match d with | .none => false | .tuple _ => false | _ => true
def sortF : List PyData → Option PyData
  | [.list ds] => if alikeB ds && sortableB ds && ds.all SeqAt.shaped then some (.list (ds.mergeSort (PySem.W.dataLe false id))) else none
  | _ => none
def keysI : List (PyData × PyData) → Option (List Int)
  | [] => some []
  | (.int i, _) :: r => (keysI r).map (i :: ·)
  | _ :: _ => none
/-- sorted of a dict with fewer than 64 keys, all ints -/
def sortDF : List PyData → Option PyData
  | [.dict kvs] => (keysI kvs).bind fun ks => if ks.length < 64 then some (.list ((ks.mergeSort fun a b => decide (a ≤ b)).map .int)) else none
  | _ => none
def reprF : List PyData → Option PyData
  | [d] => if SeqAt.shaped d && d.showable && decide (d.shown.length ≤ 1000000) then some (.str d.shown) else none
  | _ => none
section
variable {X : Cx} {C : Cn}
theorem b1 {K : PySem.W.Frag} {B : Amb} {H : Hp} {A : Addr → Prop} {vs : List V} {d : PyData} (h : Bvs K B H A vs [d]) : ∃ v, vs = [v] ∧ Bv K B H A v d := by
  cases h with
  | cons a b => cases b; exact ⟨_, rfl, a⟩
theorem b2 {K : PySem.W.Frag} {B : Amb} {H : Hp} {A : Addr → Prop} {vs : List V} {d e : PyData} (h : Bvs K B H A vs [d, e]) : ∃ v w, vs = [v, w] ∧ Bv K B H A v d ∧ Bv K B H A w e := by
  cases h with
  | cons a b =>
    cases b with
    | cons b c => cases c; exact ⟨_, _, rfl, a, b⟩
theorem f_len (hK : X.K = C.K) : CallR X (.builtin "len") (rZn C lenF) := by
  intro pins s σ H vs us Q I rv h
  obtain ⟨A, ds, dz, trk, ef, bs, hg, k⟩ := h
  unfold lenF at hg
  split at hg
  · split at hg
    · rename_i hz
      cases hg
      obtain ⟨v, rfl, b⟩ := b1 bs
      cases b.str
      exact call_len_str pins s σ H _ us Q I rv ⟨_, rfl, sz hz, fin k (.int _)⟩
    · cases hg
  · cases hg
    obtain ⟨v, rfl, b⟩ := b1 bs
    obtain ⟨a, xs, rfl, h1, h2, h3⟩ := b.list
    exact call_len_seq pins s σ H _ us Q I rv ⟨a, xs, rfl, .inl (.inl (.inl h1)), by rw [h3.length]; exact fin k (.int _)⟩
  · cases hg
    obtain ⟨v, rfl, b⟩ := b1 bs
    obtain ⟨a, xs, rfl, h1, h2, h3⟩ := b.tuple
    exact call_len_seq pins s σ H _ us Q I rv ⟨a, xs, rfl, .inr (by rw [hK]; exact h1), by rw [h3.length]; exact fin k (.int _)⟩
  · cases hg
    obtain ⟨v, rfl, b⟩ := b1 bs
    obtain ⟨a, ks, rfl, h1, h2⟩ := b.dict
    have hl := h2.len
    obtain ⟨u, rfl, rx⟩ := vals1 rv
    obtain rfl : u = Value.ref a := rx
    obtain ⟨o, g, q⟩ := h1
    rcases q with ⟨ls, rfl, rfl⟩ | ⟨ls, rfl, _, _, rfl⟩
    · rw [List.length_map] at hl
      exact d_len I g fun t s' I' => ⟨.int ls.length, H, I', ⟨t, rfl⟩, by rw [hl]; exact fin k (.int _)⟩
    · rw [List.length_map] at hl
      obtain ⟨z, hd, ys, rel, dd⟩ := dt_rd I.hok g
      have hy := Paired.length rel
      refine call_len_dictH hd dd (by rw [← hy]; rw [sizeLine_eq] at z; omega) ?_
      rw [← hy, hl]
      exact ⟨.int _, H, I.tok _, ⟨_, rfl⟩, fin k (.int _)⟩
  · cases hg
theorem f_tup (hK : X.K = C.K) : CallR X (.type "tuple") (rZn C tupF) := by
  intro pins s σ H vs us Q I rv h
  obtain ⟨A, ds, dz, trk, ef, bs, hg, k⟩ := h
  unfold tupF at hg
  split at hg
  · cases hg
    obtain ⟨v, rfl, b⟩ := b1 bs
    obtain ⟨a, xs, rfl, h1, h2, h3⟩ := b.list
    exact call_tuple_of pins s σ H _ us Q I rv ⟨a, xs, rfl, .inl ⟨.inl (.inl h1), fun l n => k _ _ (Kept.new n) (.tup upd_same h2 (h3.kept (Kept.new n)))⟩⟩
  · cases hg
    obtain ⟨v, rfl, b⟩ := b1 bs
    obtain ⟨a, xs, rfl, h1, h2, h3⟩ := b.tuple
    refine call_tuple_of pins s σ H _ us Q I rv ⟨a, xs, rfl, .inr ⟨by rw [hK]; exact h1, fin k ?_⟩⟩
    cases b with
    | d q => exact q
    | own n q => exact q.elim
  · cases hg
/-- list(d), d a dict with plain keys -/
theorem call_list_dKR {X : Cx} (hc : X.calm = true) : CallR X (.type "list") (fun xs H Q => ∃ p kvs, xs = [V.ref p] ∧ L2.Rd H p (.dK kvs) ∧ ∀ q, H q = none → Q (.ref q) (upd H q (.lst (kvs.map fun kv => L2.kV kv.1)))) := by
  intro pins s σ H xs us Q I r h
  obtain ⟨p, kvs, rfl, hp, q⟩ := h
  obtain ⟨u, rfl, rx⟩ := vals1 r
  obtain rfl : u = Value.ref p := rx
  obtain ⟨z, lo, vs, rk, hd⟩ := dk_rd I.hok hp
  obtain ⟨ep, at_⟩ := hd.dictAt
  have hl : kvs.length = vs.length := Paired.length rk
  refine PySem.W.kdl_call (PySem.W.kdl_dict (knd := mixKind X.prog X.w) (kvs := vs) (ep := ep) lo) (I.ok.hd hc) at_ (by omega) fun h' tk acc c keep hS hacc => ?_
  have rv : Vals (kvs.map fun kv => L2.kV kv.1) acc.toList := by
    refine vals_of_at (by have := hacc.1; rw [List.length_map, show acc.toList.length = acc.size from Array.length_toList]; omega) fun j x w h1 h2 => ?_
    obtain ⟨k, y, hky, hi⟩ := hacc.2 j w (by rw [← Array.getElem?_toList]; exact h2)
    have e1 : (kvs.map (·.1))[j]? = some k := by rw [KV.keys rk, List.getElem?_map, hky] <;> rfl
    have e2 : (kvs.map fun kv => L2.kV kv.1)[j]? = some (L2.kV k) := by
      rw [show (kvs.map fun kv => L2.kV kv.1) = (kvs.map (·.1)).map L2.kV by rw [List.map_map] <;> rfl, List.getElem?_map, e1] <;> rfl
    rw [e2] at h1
    cases h1
    exact keyIs_rel hi
  exact ⟨.ref s.heap.objs.size, _, I.laid (t' := tk) (o := .lst (kvs.map fun kv => L2.kV kv.1)) keep (Nat.le_refl _) ⟨by rw [List.length_map]; exact z, acc.toList, c, rv, by rw [Array.toArray_toList]; exact hS⟩, rfl, q _ (I.hok.fresh (Nat.le_refl _))⟩
theorem Dvk.keysK {K : PySem.W.Frag} {H H' : Hp} {A A' : Addr → Prop} : ∀ {ls : List (Key × V)} {kvs : List (PyData × PyData)}, Dvk K H A (ls.map fun p => ((.inl p.1 : GK), p.2)) kvs → Dvs K H' A' (ls.map fun p => L2.kV p.1) (kvs.map (·.1))
  | [], _, .nil => .nil
  | p :: ls, _, .cons a b => .cons (KeyAt.dv (k := .inl p.1) rfl) (Dvk.keysK b)
theorem Dvk.keysT {K : PySem.W.Frag} {H H' : Hp} {A A' : Addr → Prop} (t : Tups H H') : ∀ {ls : List (List Key × V)} {kvs : List (PyData × PyData)} {bs : List Addr}, Dvk K H A (ls.map fun p => ((.inr p.1 : GK), p.2)) kvs → (∀ p ∈ ls, p.1.length ≤ sizeLine) → IsKeys H ls bs → Dvs K H' A' (bs.map V.ref) (kvs.map (·.1))
  | [], _, _, .nil, _, .nil => .nil
  | p :: ls, _, b :: bs, .cons a q, hz, .cons e r => .cons (KeyAt.dv (k := .inr p.1) ⟨hz _ List.mem_cons_self, b, rfl, t _ _ e⟩) (Dvk.keysT t q (fun p hp => hz p (List.mem_cons_of_mem _ hp)) r)
theorem f_lst (hc : X.calm = true) (hK : X.K = C.K) : CallR X (.type "list") (rZnF C lstF) := by
  intro pins s σ H vs us Q I rv h
  obtain ⟨A, ds, dz, trk, ef, bs, hg, k⟩ := h
  unfold lstF at hg
  split at hg
  · cases hg
    obtain ⟨v, rfl, b⟩ := b1 bs
    obtain ⟨a, xs, rfl, h1, h2, h3⟩ := b.list
    exact call_list_of pins s σ H _ us Q I rv ⟨a, xs, rfl, .inl (.inl (.inl h1)), fun l n => k _ _ n (Kept.new n) (own_lst n h2 h3)⟩
  · cases hg
    obtain ⟨v, rfl, b⟩ := b1 bs
    obtain ⟨a, xs, rfl, h1, h2, h3⟩ := b.tuple
    exact call_list_of pins s σ H _ us Q I rv ⟨a, xs, rfl, .inr (by rw [hK]; exact h1), fun l n => k _ _ n (Kept.new n) (own_lst n h2 h3)⟩
  · rename_i kvs
    cases hg
    obtain ⟨v, rfl, b⟩ := b1 bs
    obtain ⟨a, ks, rfl, ⟨o, g, q⟩, h2⟩ := b.dict
    have hl := h2.len
    rcases q with ⟨ls, rfl, rfl⟩ | ⟨ls, rfl, _, hz, rfl⟩
    · have z := (dk_rd I.hok g).1
      exact call_list_dKR hc pins s σ H _ us Q I rv ⟨a, ls, rfl, g, fun l n => k _ _ n (Kept.new n) (own_lst n (by rw [List.length_map]; exact z) h2.keysK)⟩
    · have z := (dt_rd I.hok g).1
      refine call_list_dT hc pins s σ H _ us Q I rv ⟨a, ls, rfl, g, fun l bs' n ik => ?_⟩
      have hb := Paired.length ik
      exact k _ _ n (Kept.new n) (own_lst n (by rw [List.length_map, ← hb]; exact z) (h2.keysT (fun _ _ q => q) hz ik))
  · cases hg
theorem f_abs : CallR X (.builtin "abs") (rZn C absF) := by
  intro pins s σ H vs us Q I rv h
  obtain ⟨A, ds, dz, trk, ef, bs, hg, k⟩ := h
  unfold absF at hg
  split at hg
  · cases hg
    obtain ⟨v, rfl, b⟩ := b1 bs
    cases b.int
    exact call_abs pins s σ H _ us Q I rv ⟨_, rfl, fin k (.int _)⟩
  · cases hg
theorem f_int : CallR X (.type "int") (rZn C intF) := by
  intro pins s σ H vs us Q I rv h
  obtain ⟨A, ds, dz, trk, ef, bs, hg, k⟩ := h
  unfold intF at hg
  split at hg
  · cases hg
    obtain ⟨v, rfl, b⟩ := b1 bs
    cases b.int
    exact call_int1 pins s σ H _ us Q I rv (.inl ⟨_, rfl, fin k (.int _)⟩)
  · cases hg
    obtain ⟨v, rfl, b⟩ := b1 bs
    cases b.bl
    exact call_int1 pins s σ H _ us Q I rv (.inr ⟨_, rfl, fin k (.int _)⟩)
  · cases hg
theorem f_min2 (hc : X.calm = true) : CallR X (.builtin "min") (rZn C min2F) := by
  intro pins s σ H vs us Q I rv h
  obtain ⟨A, ds, dz, trk, ef, bs, hg, k⟩ := h
  unfold min2F at hg
  split at hg
  · cases hg
    obtain ⟨v, w, rfl, b, b'⟩ := b2 bs
    cases b.int; cases b'.int
    exact call_min2 hc pins s σ H _ us Q I rv ⟨_, _, rfl, fin k (.int _)⟩
  · cases hg
theorem f_max2 (hc : X.calm = true) : CallR X (.builtin "max") (rZn C max2F) := by
  intro pins s σ H vs us Q I rv h
  obtain ⟨A, ds, dz, trk, ef, bs, hg, k⟩ := h
  unfold max2F at hg
  split at hg
  · cases hg
    obtain ⟨v, w, rfl, b, b'⟩ := b2 bs
    cases b.int; cases b'.int
    exact call_max2 hc pins s σ H _ us Q I rv ⟨_, _, rfl, fin k (.int _)⟩
  · cases hg
theorem boolsOf_some : ∀ {ds : List PyData} {ns : List Bool}, boolsOf ds = some ns → ds = ns.map PyData.bool
  | [], _, h => by cases h; rfl
  | .bool i :: r, _, h => by
    obtain ⟨ns, h1, h2⟩ := Option.map_eq_some_iff.mp h
    subst h2
    rw [boolsOf_some h1] <;> rfl
  | .none :: _, _, h => by cases h
  | .int _ :: _, _, h => by cases h
  | .str _ :: _, _, h => by cases h
  | .list _ :: _, _, h => by cases h
  | .tuple _ :: _, _, h => by cases h
  | .dict _ :: _, _, h => by cases h
theorem f_all (hc : X.calm = true) : CallR X (.builtin "all") (rZn C allF) := by
  intro pins s σ H vs us Q I rv h
  obtain ⟨A, ds, dz, trk, ef, bs, hg, k⟩ := h
  unfold allF at hg
  split at hg
  · obtain ⟨bl, h1, rfl⟩ := Option.map_eq_some_iff.mp hg
    obtain rfl := boolsOf_some h1
    obtain ⟨v, rfl, b⟩ := b1 bs
    obtain ⟨a, xs, rfl, h1, h2, h3⟩ := b.list
    obtain rfl := h3.of_bools
    exact cr_all hc pins s σ H _ us Q I rv ⟨a, bl, rfl, .inl (.inl h1), fin k (.bl _)⟩
  · cases hg
theorem f_any (hc : X.calm = true) : CallR X (.builtin "any") (rZn C anyF) := by
  intro pins s σ H vs us Q I rv h
  obtain ⟨A, ds, dz, trk, ef, bs, hg, k⟩ := h
  unfold anyF at hg
  split at hg
  · obtain ⟨bl, h1, rfl⟩ := Option.map_eq_some_iff.mp hg
    obtain rfl := boolsOf_some h1
    obtain ⟨v, rfl, b⟩ := b1 bs
    obtain ⟨a, xs, rfl, h1, h2, h3⟩ := b.list
    obtain rfl := h3.of_bools
    exact cr_any hc pins s σ H _ us Q I rv ⟨a, bl, rfl, .inl (.inl h1), fin k (.bl _)⟩
  · cases hg
theorem foldl_max_mem : ∀ (r : List Int) (n : Int), r.foldl max n ∈ n :: r
  | [], n => by simp
  | m :: r, n => by
    have h := foldl_max_mem r (max n m)
    rw [List.foldl_cons]
    rcases List.mem_cons.mp h with e | h
    · rw [e]
      rcases Int.le_total n m with q | q
      · rw [Int.max_eq_right q]; simp
      · rw [Int.max_eq_left q]; simp
    · exact List.mem_cons_of_mem _ (List.mem_cons_of_mem _ h)
theorem le_foldl_max : ∀ (r : List Int) (n : Int), n ≤ r.foldl max n ∧ ∀ y ∈ r, y ≤ r.foldl max n
  | [], n => by simp
  | m :: r, n => by
    obtain ⟨h1, h2⟩ := le_foldl_max r (max n m)
    rw [List.foldl_cons]
    refine ⟨by omega, fun y hy => ?_⟩
    rcases List.mem_cons.mp hy with e | hy
    · omega
    · exact h2 y hy
theorem maxI_uniq {ns : List Int} {m z : Int} (h : maxI ns = some z) (h1 : m ∈ ns) (h2 : ∀ y, y ∈ ns → y ≤ m) : m = z := by
  cases ns with
  | nil => cases h
  | cons n r =>
    cases h
    obtain ⟨q1, q2⟩ := le_foldl_max r n
    have q3 := h2 _ (foldl_max_mem r n)
    rcases List.mem_cons.mp h1 with e | e
    · omega
    · have := q2 m e
      omega
theorem f_max (hc : X.calm = true) : CallR X (.builtin "max") (rZn C maxF) := by
  intro pins s σ H vs us Q I rv h
  obtain ⟨A, ds, dz, trk, ef, bs, hg, k⟩ := h
  unfold maxF at hg
  split at hg
  · obtain ⟨ns, h1, h2⟩ := Option.bind_eq_some_iff.mp hg
    obtain ⟨z, h3, rfl⟩ := Option.map_eq_some_iff.mp h2
    obtain rfl := intsOf_some h1
    obtain ⟨v, rfl, b⟩ := b1 bs
    obtain ⟨a, xs, rfl, h1, h2, h4⟩ := b.list
    obtain rfl := h4.of_ints
    refine cr_max hc pins s σ H _ us Q I rv ⟨a, ns, rfl, .inl (.inl h1), ?_, fun m hm hy => ?_⟩
    · cases ns with
      | nil => cases h3
      | cons _ _ => simp
    · rw [maxI_uniq h3 hm hy]
      exact fin k (.int _)
  · cases hg
theorem f_sortD (hc : X.calm = true) : CallR X (.builtin "sorted") (rZnF C sortDF) := by
  intro pins s σ H vs us Q I rv h
  obtain ⟨A, ds, dz, trk, ef, bs, hg, k⟩ := h
  unfold sortDF at hg
  split at hg
  · obtain ⟨ks, h1, h2⟩ := Option.bind_eq_some_iff.mp hg
    split at h2
    · rename_i h64
      cases h2
      obtain ⟨v, rfl, b⟩ := b1 bs
      obtain ⟨a, kvs, rfl, h3, h4⟩ := b.dict
      obtain ⟨o, g, q⟩ := h3
      have hk : ∀ {kvs : List (Key × V)} {es : List (PyData × PyData)} {ks : List Int}, Dvk C.K H A (kvs.map fun p => ((.inl p.1 : GK), p.2)) es → keysI es = some ks → kvs.map (·.1) = ks.map Sum.inl := by
        intro kvs
        induction kvs with
        | nil => intro es ks q e; cases q; cases e; rfl
        | cons x r ih =>
          intro es ks q e
          rw [List.map_cons] at q
          obtain ⟨k', x2⟩ := x
          cases q with
          | @cons _ v' _ d' kvs' a' b' =>
            cases k' with
            | inl i =>
              obtain ⟨ns, e1, e2⟩ := Option.map_eq_some_iff.mp (show (keysI kvs').map (i :: ·) = some ks from e)
              subst e2
              rw [List.map_cons, ih b' e1] <;> rfl
            | inr y => cases (show (none : Option (List Int)) = some ks from e)
      rcases q with ⟨ls, rfl, rfl⟩ | ⟨ls, rfl, ne, _, rfl⟩
      case inr =>
        cases ls with
        | nil => exact absurd rfl ne
        | cons p r =>
          rw [List.map_cons] at h4
          cases h4
          cases h1
      refine call_sortedDI hc pins s σ H _ us Q I rv ⟨a, ls, ks, rfl, g, hk h4 h1, h64, fun ys p hp hw n => ?_⟩
      have e : ys = ks.mergeSort fun a b => decide (a ≤ b) := by
        refine List.Perm.eq_of_pairwise (le := (· ≤ ·)) (fun _ _ _ _ => Int.le_antisymm) hw ?_ (hp.trans (List.mergeSort_perm _ _).symm)
        have := List.pairwise_mergeSort (le := fun a b : Int => decide (a ≤ b)) (fun a b c h1 h2 => by simp at *; omega) (fun a b => by simp; omega) ks
        exact this.imp fun h => by simpa using h
      subst e
      exact k p _ n (Kept.new n) (own_lst n (by rw [List.length_map, List.length_mergeSort]; exact sz (by omega)) (Dvs.ints _))
    · cases h2
  · cases hg
theorem depth_of {d : PyData} (h : SeqAt.shaped d = true) : d.depth ≤ 64 := SeqAt.depth_of_shaped h
theorem each_dv {K : PySem.W.Frag} {H : Hp} {A : Addr → Prop} : ∀ {xs : List V} {ds : List PyData} {its : List Value}, Dvs K H A xs ds → Vals xs its → PySem.W.EachIs (fun v d => ∃ x, RelV x v ∧ Dv K H A x d) its ds
  | _, _, _, .nil, .nil => .nil
  | _, _, _, .cons a b, .cons r1 r2 => .cons ⟨_, r1, a⟩ (each_dv b r2)
theorem f_sort (hK : X.K = C.K) (hu : X.A.units + 70 < cLine) : CallR X (.builtin "sorted") (rZnF C sortF) := by
  intro pins s σ H vs us Q I rv h
  obtain ⟨A, ds0, dz, trk, ef, bs, hg, k⟩ := h
  unfold sortF at hg
  split at hg
  · rename_i ds
    split at hg
    · rename_i hc
      cases hg
      simp only [Bool.and_eq_true] at hc
      obtain ⟨⟨c1, c2⟩, c3⟩ := hc
      obtain ⟨v, rfl, b⟩ := b1 bs
      obtain ⟨a, xs, rfl, h1, h2, h3⟩ := b.list
      obtain ⟨u, rfl, r1⟩ := vals1 rv
      cases (show u = Value.ref a from r1)
      obtain ⟨its, rx, hl, hz⟩ := I.list (xs := xs) (.inl (.inl h1))
      have e0 : PySem.W.EachIs (fun v d => ∃ x, RelV x v ∧ Dv C.K H A x d) its ds := by
        exact each_dv h3 rx
      have sh : ∀ d ∈ ds, SeqAt.shaped d = true := List.all_eq_true.mp c3
      have e1 : PySem.W.EachIs (fun v d => ∃ as, Reads s.heap v (id d) as) its ds := by
        have : ∀ {its : List Value} {es : List PyData}, (∀ d ∈ es, SeqAt.shaped d = true) → PySem.W.EachIs (fun v d => ∃ x, RelV x v ∧ Dv C.K H A x d) its es → PySem.W.EachIs (fun v d => ∃ as, Reads s.heap v (id d) as) its es := by
          intro its es hs q
          induction q with
          | nil => exact .nil
          | cons h t ih =>
            obtain ⟨x, q1, q2⟩ := h
            exact .cons (Dp.reads I _ _ _ (by rw [hK]; exact q2.dp (shaped_lay (hs _ List.mem_cons_self))) q1) (ih fun d hd => hs d (List.mem_cons_of_mem _ hd))
        exact this sh e0
      have hal : PySem.W.AllAlike (ds.map id) := by
        rw [List.map_id]
        intro d hd d' hd'
        exact List.all_eq_true.mp (List.all_eq_true.mp c1 d hd) d' hd'
      have hso : PySem.W.Sortable (ds.map id) := by
        rw [List.map_id]
        unfold sortableB at c2
        rw [Bool.or_eq_true] at c2
        rcases c2 with c2 | c2
        · refine .inl fun d hd => ?_
          have q := List.all_eq_true.mp c2 d hd
          cases d with
          | tuple xs => cases xs with
            | nil => cases q
            | cons x r => exact ⟨x, r, rfl⟩
          | _ => cases q
        · refine .inr fun d hd => ?_
          have q := List.all_eq_true.mp c2 d hd
          refine ⟨fun h => ?_, fun xs h => ?_⟩
          · rw [h] at q; cases q
          · rw [h] at q; cases q
      refine PySem.W.sorted_data hl.isList e0 e1 hal hso (by rw [← h3.length]; exact h2) (fun d hd => by have := depth_of (sh d hd); show _ + d.depth < _; omega) fun out ho eo => ?_
      obtain ⟨ep, he'⟩ := PyProof.Rows.sortedAll_at s.heap its out.toArray
      obtain ⟨ys, r2, d2⟩ : ∃ ys, Vals ys out ∧ Dvs C.K H A ys (ds.mergeSort (PySem.W.dataLe false id)) := by
        generalize ds.mergeSort (PySem.W.dataLe false id) = es at eo
        clear ho he'
        induction eo with
        | nil => exact ⟨[], .nil, .nil⟩
        | cons h _ ih =>
          obtain ⟨x, q1, q2⟩ := h
          obtain ⟨ys, q3, q4⟩ := ih
          exact ⟨x :: ys, .cons q1 q3, .cons q2 q4⟩
      have hlen : ys.length ≤ sizeLine := by rw [d2.length, List.length_mergeSort, ← h3.length]; exact h2
      have n : H (s.heap.objs.size + 1) = none := I.hok.fresh (Nat.le_succ _)
      exact ⟨.ref _, upd H (s.heap.objs.size + 1) (.lst ys), I.laid (t' := s.toks) (fun _ _ => PyProof.Rows.sortedAll_old) (Nat.le_succ _) ⟨hlen, out, ep, r2, he'⟩, rfl, k _ _ n (Kept.new n) (own_lst n hlen d2)⟩
    · cases hg
  · cases hg
theorem f_str : CallR X (.type "str") (rZn C strF) := by
  intro pins s σ H vs us Q I rv h
  obtain ⟨A, ds, dz, trk, ef, bs, hg, k⟩ := h
  unfold strF at hg
  split at hg
  · split at hg
    · rename_i hz
      cases hg
      obtain ⟨v, rfl, b⟩ := b1 bs
      cases b.int
      exact call_str_int pins s σ H _ us Q I rv ⟨_, rfl, hz, fin k (.str _)⟩
    · cases hg
  · cases hg
    obtain ⟨v, rfl, b⟩ := b1 bs
    cases b.str
    exact SkE.call_str_str pins s σ H _ us Q I rv ⟨_, rfl, fin k (.str _)⟩
  · cases hg
theorem f_repr (hK : X.K = C.K) (hG : X.A.guards = some []) (hu : X.A.units + 70 < cLine) : CallR X (.builtin "repr") (rZn C reprF) := by
  intro pins s σ H vs us Q I rv h
  obtain ⟨A, ds, dz, trk, ef, bs, hg, k⟩ := h
  unfold reprF at hg
  split at hg
  · rename_i d
    split at hg
    · rename_i hc
      cases hg
      simp only [Bool.and_eq_true, decide_eq_true_eq] at hc
      obtain ⟨⟨c1, c2⟩, c3⟩ := hc
      have hsz : d.shown.length ≤ sizeLine := by rw [sizeLine_eq]; omega
      obtain ⟨v, rfl, b⟩ := b1 bs
      obtain ⟨u, rfl, r1⟩ := vals1 rv
      obtain ⟨as, rd⟩ := Dp.reads I _ _ _ (by rw [hK]; exact b.dp (shaped_lay c1)) r1
      have nd : d.hasDict = true → sysModules ∉ as := fun q => by
        rw [PyData.hasDict_of_canLay d (shaped_lay c1)] at q
        cases q
      have fin' : ∀ (tk : Nat) (u : Tok), EP X pins σ Q (.str d.shown u) { s with toks := tk } := fun tk u => ⟨.str d.shown, H, I.tok _, ⟨_, rfl⟩, fin k (.str _)⟩
      cases d with
      | none => cases b.non; cases r1; exact PySem.P.repr_of_none (by have := fin' (s.toks + 1) s.toks; rwa [PyData.shown_none] at this)
      | bool b' => cases b.bl; cases r1; exact PySem.P.repr_of_bool (by have := fin' (s.toks + 1) s.toks; rw [PyData.shown_bool] at this; cases b' <;> exact this)
      | int i =>
        cases b.int
        obtain ⟨t, rfl⟩ := r1
        exact PySem.P.repr_of_int (by simpa [PyData.showable] using c2) (by have := fin' (s.toks + 1) s.toks; rwa [PyData.shown_int] at this)
      | str x =>
        cases b.str
        obtain ⟨t, rfl⟩ := r1
        exact PySem.P.repr_of_str (by have := fin' (s.toks + 1) s.toks; rwa [PyData.shown_str] at this) (by rw [PyData.shown_str] at hsz; exact hsz)
      | list xs =>
        obtain ⟨a, ys, rfl, _⟩ := b.list
        cases r1
        exact repr_of_reads' rd c2 nd hG (by have := depth_of c1; omega) (fun _ _ q => q) (fun h' u tk hk => ⟨.str _, H, I.kept hk, ⟨_, rfl⟩, fin k (.str _)⟩) hsz
      | tuple xs =>
        obtain ⟨a, ys, rfl, _⟩ := b.tuple
        cases r1
        exact repr_of_reads' rd c2 nd hG (by have := depth_of c1; omega) (fun _ _ q => q) (fun h' u tk hk => ⟨.str _, H, I.kept hk, ⟨_, rfl⟩, fin k (.str _)⟩) hsz
      | dict kvs => simp [SeqAt.shaped, PyData.canLay0] at c1
    · cases hg
  · cases hg
end
end Zd

set_option maxRecDepth 100000
set_option maxHeartbeats 4000000
namespace Zd
open PySem L2
open PyProof.Rows hiding St

/-! ### subscripts -/
def ixD : PyData → PyData → Option PyData
  | .list ds, .int i => atI ds i
  | .tuple ds, .int i => atI ds i
  | .str x, .int i => if x.length ≤ 100000 then (atI x.cps.toList i).map fun c => .str ⟨#[c]⟩ else none
  | .dict kvs, d => (keyOf d).bind fun k => if fitB kvs k then getD kvs k else none
  | _, _ => none
theorem Dvs.atI {K : PySem.W.Frag} {H : Hp} {A : Addr → Prop} {xs : List V} {ds : List PyData} {i : Int} {d : PyData} (h : Dvs K H A xs ds) (e : L2.atI ds i = some d) : ∃ v, L2.atI xs i = some v ∧ Dv K H A v d := by
  unfold L2.atI at e ⊢
  rw [h.length]
  cases q : ixN ds.length i with
  | none => rw [q] at e; cases e
  | some j =>
    rw [q] at e
    exact h.get e
theorem i_any {X : Cx} {C : Cn} (hK : X.K = C.K) (hu : X.A.units + 1 < cLine) : IxR X (rZ2 C ixD) := by
  intro value slice pins s σ H x y v u Q I rx ry h hs
  obtain ⟨A, dx, dy, dz, trk, ef, bx, by', hg, k⟩ := h
  unfold ixD at hg
  split at hg
  · cases by'.int
    obtain ⟨a, xs, rfl, h1, h2, h3⟩ := bx.list
    obtain ⟨w, e1, e2⟩ := h3.atI hg
    exact ix_list value slice pins s σ H _ _ v u Q I rx ry ⟨a, xs, _, w, rfl, rfl, .inl (.inl h1), e1, fin k e2⟩ hs
  · cases by'.int
    obtain ⟨a, xs, rfl, h1, h2, h3⟩ := bx.tuple
    obtain ⟨w, e1, e2⟩ := h3.atI hg
    exact ix_tup value slice pins s σ H _ _ v u Q I rx ry ⟨a, xs, _, w, rfl, rfl, by rw [hK]; exact h1, e1, fin k e2⟩ hs
  · split at hg
    · rename_i hz
      obtain ⟨c, e1, rfl⟩ := Option.map_eq_some_iff.mp hg
      cases bx.str; cases by'.int
      exact ix_str value slice pins s σ H _ _ v u Q I rx ry ⟨_, _, c, rfl, rfl, sz hz, e1, fin k (.str _)⟩ hs
    · cases hg
  · obtain ⟨ky, e1, e2⟩ := Option.bind_eq_some_iff.mp hg
    obtain ⟨e2a, e2⟩ := (show fitB _ ky = true ∧ _ = some dz from by
      split at e2
      · rename_i h; exact ⟨h, e2⟩
      · cases e2)
    obtain ⟨a, ks, rfl, h1, h2⟩ := bx.dict
    cases (show v = Value.ref a from rx)
    rcases h2.val (k := ky) with ⟨q1, q2⟩ | ⟨d', w, q1, q2, q3⟩
    · rw [q1] at e2; cases e2
    · rw [q1] at e2
      cases e2
      have g := rd_look I h1 (by'.key e1) ry (h2.fit e2a)
      rw [q2] at g
      have ty : s.TypeIs (.ref a) "dict" := by
        rcases g with ⟨_, ⟨_, _, _, dd, _⟩ | ⟨_, _, _, _, _, dd, _⟩⟩
        · exact dd.typeIs
        · exact dd.typeIs
      exact tail_any ty PySem.F.slot_dict_getitem.lookup (z_item hu I g fun w' s' I' r' => ⟨w, H, I', r', fin k q3⟩) hs
  · cases hg
theorem pd_ix {X : Cx} {C : Cn} {pos : Pos} {a b : Expr} {m1 m2 : Rd PyData} (hK : X.K = C.K) (hu : X.A.units + 1 < cLine) (h1 : PB X C a m1) (h2 : PB X C b m2) (hs : PlainIx b := by exact fun _ _ => rfl) : PD X C (.Subscript a b pos) (mOp ixD m1 m2) := by
  obtain ⟨ta, p1, q1⟩ := h1.ex
  obtain ⟨tb, p2, q2⟩ := h2.ex
  exact ⟨_, pe_ix (i_any hK hu) p1 p2 hs, op_core q1 q2⟩

/-! ### slices -/
def cutD (ds : List PyData) (lo hi : Option Int) : List PyData := (ds.drop (HT.sIx ds.length 0 lo)).take (HT.sIx ds.length ds.length hi - HT.sIx ds.length 0 lo)
def slD (d : PyData) (lo hi : Option Int) : Option PyData := match d with
  | .list ds => some (.list (cutD ds lo hi))
  | .tuple ds => some (.tuple (cutD ds lo hi))
  | .str x => if x.length ≤ 100000 then some (.str (cutS x lo hi)) else none
  | _ => none
def asI : PyData → Option Int
  | .int i => some i
  | _ => none
def mPart (m : Option (Rd PyData)) : Rd (Option Int) := match m with
  | none => Rd.ok none
  | some m => m.bind fun d => Rd.lift ((asI d).map some)
def mSl (m : Rd PyData) (lo hi : Option (Rd PyData)) : Rd PyData := m.bind fun d => (mPart lo).bind fun l => (mPart hi).bind fun h => Rd.lift (slD d l h)
structure POs (X : Cx) (C : Cn) (e : Option Expr) (m : Option (Rd PyData)) : Prop where
  ex : ∃ te : TO, PO X e te ∧ ∀ A E G σ H (Q : Option Int → Hp → Prop) r G', Rel C.K C.B A E G σ H → mPart m E G = some (r, G') →
    (match r with | .ok o => ∀ H', Ext C.B H H' → JR C.B G' H' → Q o H' | .error x => PErr C A H x G') → te σ H Q
theorem goO {C : Cn} {te : TO} {m : Option (Rd PyData)} {β : Type} {f : Option Int → Rd β} {A : Addr → Prop} {E : Evn} {G G' : Rng} {σ : L2.St} {H : Hp} {Q : Option Int → Hp → Prop} {r : Except Exn β}
    (h : ∀ A E G σ H (Q : Option Int → Hp → Prop) r G', Rel C.K C.B A E G σ H → mPart m E G = some (r, G') → (match r with | .ok o => ∀ H', Ext C.B H H' → JR C.B G' H' → Q o H' | .error x => PErr C A H x G') → te σ H Q) (R : Rel C.K C.B A E G σ H) (hm : (mPart m).bind f E G = some (r, G'))
    (pe : ∀ x, r = .error x → PErr C A H x G') (k : ∀ d G1 H1, Ext C.B H H1 → Rel C.K C.B A E G1 σ H1 → f d E G1 = some (r, G') → Q d H1) : te σ H Q := by
  rcases Rd.bind_cases hm with ⟨x, h1, h2⟩ | ⟨d, G1, h1, h2⟩
  · exact h A E G σ H Q _ _ R h1 (pe x h2)
  · exact h A E G σ H Q _ _ R h1 fun H1 e j => k d G1 H1 e (R.ext e j) h2
section
variable {X : Cx} {C : Cn} {pos p2 : Pos} {e : Expr} {m : Rd PyData} {lo hi : Option Expr} {ml mh : Option (Rd PyData)}
theorem po_no : POs X C none none := by
  refine ⟨_, po_none, fun A E G σ H Q r G' R hm p => ?_⟩
  cases hm
  exact p H (Ext.refl _ _) R.jr
theorem po_so (h : PB X C e m) : POs X C (some e) (some m) := by
  obtain ⟨te, p1, q1⟩ := h.ex
  refine ⟨_, po_some p1, fun A E G σ H Q r G' R hm p => ?_⟩
  show te σ H fun x H1 => ∃ i, x = .int i ∧ Q (some i) H1
  refine goB q1 R hm (fun x hx => by subst hx; exact p) fun d G1 v H1 e1 R1 b hm1 => ?_
  obtain ⟨o, ho, rfl, rfl⟩ := Rd.lift_cases hm1
  obtain ⟨i, hi, rfl⟩ := Option.map_eq_some_iff.mp ho
  cases d <;> first | cases hi | skip
  exact ⟨_, b.int, p H1 e1 R1.jr⟩
theorem cutV_dvs {K : PySem.W.Frag} {H : Hp} {A : Addr → Prop} {xs : List V} {ds : List PyData} {lo hi : Option Int} (h : Dvs K H A xs ds) : Dvs K H A (cutV xs lo hi) (cutD ds lo hi) := by
  unfold cutV cutD
  rw [h.length]
  exact (h.drop _).take _
def rZs (C : Cn) : V → Option Int → Option Int → Hp → VK → Prop := fun x lo hi H Q => ∃ A dx dz, (∀ a, A a → H a ≠ none) ∧ Bv C.K C.B H A x dx ∧ slD dx lo hi = some dz ∧ ∀ v H', Kept H H' → Dv C.K H' A v dz → Q v H'
theorem s_any (hK : X.K = C.K) : SlR X (rZs C) := by
  intro pins s σ H x v vl vu lo hi sl Q I rx hs pl pu h
  obtain ⟨A, dx, dz, trk, bx, hg, k⟩ := h
  unfold slD at hg
  split at hg
  · cases hg
    obtain ⟨a, xs, rfl, h1, h2, h3⟩ := bx.list
    exact sl_list pins s σ H _ v vl vu lo hi sl Q I rx hs pl pu ⟨a, xs, rfl, .inl (.inl h1), fun p n => k _ _ (Kept.new n) (.lst upd_same (fun z => trk p z n) (Nat.le_trans (cutV_length xs lo hi) h2) ((cutV_dvs h3).kept (Kept.new n)))⟩
  · rename_i ds
    cases hg
    obtain ⟨a, xs, rfl, h1, h2, h3⟩ := bx.tuple
    refine sl_tupA pins s σ H _ v vl vu lo hi sl Q I rx hs pl pu ⟨a, xs, rfl, by rw [hK]; exact h1, fun e => ?_, fun _ p n => k _ _ (Kept.new n) (.tup upd_same (Nat.le_trans (cutV_length xs lo hi) h2) ((cutV_dvs h3).kept (Kept.new n)))⟩
    have e' : cutD ds lo hi = ds := by
      unfold cutD
      rw [← h3.length, e.1, e.2, List.drop_zero, Nat.sub_zero, h3.length, List.take_length]
    refine fin k ?_
    rw [e']
    cases bx with
    | d q => exact q
    | own n q => exact q.elim
  · split at hg
    · rename_i hz
      cases hg
      cases bx.str
      exact sl_str pins s σ H _ v vl vu lo hi sl Q I rx hs pl pu ⟨_, rfl, sz hz, fin k (.str _)⟩
    · cases hg
  · cases hg
theorem pd_sl (hK : X.K = C.K) (he : PB X C e m) (hl : POs X C lo ml) (hh : POs X C hi mh) : PD X C (.Subscript e (.Slice lo hi none p2) pos) (mSl m ml mh) := by
  obtain ⟨te, p1, q1⟩ := he.ex
  obtain ⟨tl, p3, q3⟩ := hl.ex
  obtain ⟨th, p4, q4⟩ := hh.ex
  refine ⟨_, pe_slice (s_any hK) p1 p3 p4, fun A E G σ H Q r G' R hm p => ?_⟩
  show te σ H fun x H1 => tl σ H1 fun l H2 => th σ H2 fun u H3 => rZs C x l u H3 Q
  refine goB q1 R hm p.err fun d G1 v H1 e1 R1 b hm1 => ?_
  refine goO q3 R1 hm1 (fun x hx => (p.err x hx).ext e1) fun l G2 H2 e2 R2 hm2 => ?_
  refine goO q4 R2 hm2 (fun x hx => ((p.err x hx).ext e1).ext e2) fun u G3 H3 e3 R3 hm3 => ?_
  obtain ⟨dz, hz, rfl, rfl⟩ := Rd.lift_cases hm3
  exact ⟨A, d, dz, R3.trk, (b.ext e2 R.ef).ext e3 R.ef, hz, fun w H' k q => p w H' (((e1.trans e2).trans e3).trans k.ext) (k.jr R3.jr) q⟩
end

/-! ### isinstance -/
def tyN : PyData → String
  | .none => "NoneType"
  | .bool _ => "bool"
  | .int _ => "int"
  | .str _ => "str"
  | .list _ => "list"
  | .tuple _ => "tuple"
  | .dict _ => "dict"
def isTup : PyData → Bool | .tuple _ => true | _ => false
def isStr : PyData → Bool | .str _ => true | _ => false
def isInt : PyData → Bool | .int _ => true | .bool _ => true | _ => false
def isBool : PyData → Bool | .bool _ => true | _ => false
def isList : PyData → Bool | .list _ => true | _ => false
def isDict : PyData → Bool | .dict _ => true | _ => false
theorem kit_tup (d : PyData) : kitB (tyN d) "tuple" = some (isTup d) := by cases d <;> simp only [tyN, isTup] <;> decide +kernel
theorem kit_str (d : PyData) : kitB (tyN d) "str" = some (isStr d) := by cases d <;> simp only [tyN, isStr] <;> decide +kernel
theorem kit_int (d : PyData) : kitB (tyN d) "int" = some (isInt d) := by cases d <;> simp only [tyN, isInt] <;> decide +kernel
theorem kit_bool (d : PyData) : kitB (tyN d) "bool" = some (isBool d) := by cases d <;> simp only [tyN, isBool] <;> decide +kernel
theorem kit_list (d : PyData) : kitB (tyN d) "list" = some (isList d) := by cases d <;> simp only [tyN, isList] <;> decide +kernel
theorem kit_dict (d : PyData) : kitB (tyN d) "dict" = some (isDict d) := by cases d <;> simp only [tyN, isDict] <;> decide +kernel
/-- what isinstance sees -/
def TyZ (K : PySem.W.Frag) (H : Hp) (v : V) (t : Value) : Prop := TyX K H v t ∨ (t = .type "dict" ∧ ∃ a o kvs, v = .ref a ∧ H a = some (.frz o (.dT kvs)))
theorem tyx_dict {K : PySem.W.Frag} {H : Hp} {a : Addr} {ks : List (GK × V)} (h : RDct H a ks) : TyZ K H (.ref a) (.type "dict") := by
  obtain ⟨o, r, q⟩ := h
  rcases q with ⟨ls, rfl, _⟩ | ⟨ls, rfl, _⟩
  · rcases r with r | ⟨u, r⟩
    · exact .inl (.base (.dK r))
    · exact .inl (.fDict r)
  · rcases r with r | ⟨u, r⟩
    · exact .inl (.base (.dT r))
    · exact .inr ⟨rfl, a, u, ls, rfl, r⟩
theorem kit_ofZ {X : Cx} {pins : List (Addr × Obj)} {σ : L2.St} {H : Hp} {s : Shared} {x : V} {u t : Value} (I : Inv X pins σ H s) (rx : RelV x u) (ty : TyZ X.K H x t) : ∃ P : Heap → Prop, PySem.W.KitX X.K u t P ∧ P s.heap ∧ u ≠ .builtin "__main__.__loader__#opaque" := by
  rcases ty with ty | ⟨rfl, a, o, kvs, rfl, e⟩
  · exact kit_of I rx ty
  · cases (show u = Value.ref a from rx)
    obtain ⟨_, _, xs, _, ob, es, ep, h1, h2, _⟩ := (I.hok a _ e).2
    exact ⟨_, PySem.W.kitx_dict, ⟨ob, h1, h2.1⟩, fun z => nomatch z⟩
/-- isinstance(x, c) -/
def rIsiZ (K : PySem.W.Frag) : List V → Hp → VK → Prop := fun xs H Q => ∃ (x c : V) (t u : Value) (b : Bool), xs = [x, c] ∧ ClsV c u ∧ TyZ K H x t ∧ PySem.W.kitOne K t u = some b ∧ Q (.bl b) H
theorem call_isiZ {X : Cx} : CallR X (.builtin "isinstance") (rIsiZ X.K) := by
  intro pins s σ H xs us Q I r ⟨x, c, t, u, b, e0, k, ty, e, q⟩
  subst e0
  obtain ⟨u1, u2, e0, r1, r2⟩ := vals2 r
  subst e0
  have e2 := k.eq r2
  subst e2
  obtain ⟨P, Z, p, hx⟩ := kit_ofZ I r1 ty
  exact PySem.W.kia_one Z I.kIn p e hx fun tk => ⟨.bl b, H, I.tok tk, rfl, q⟩
/-- isinstance(x, (c, d)), the tuple just laid -/
def rIsiTZ (K : PySem.W.Frag) : List V → Hp → VK → Prop := fun xs H Q => ∃ (x : V) (tp : Addr) (cs : List V) (t : Value) (us : List Value) (b : Bool), xs = [x, .ref tp] ∧ H tp = some (.tup cs) ∧ Paired ClsV cs us ∧ TyZ K H x t ∧ PySem.W.kitAny K t us = some b ∧ Q (.bl b) H
theorem call_isiTZ {X : Cx} : CallR X (.builtin "isinstance") (rIsiTZ X.K) := by
  intro pins s σ H xs us Q I r ⟨x, tp, cs, t, ws, b, e0, hT, k, ty, e, q⟩
  subst e0
  obtain ⟨u1, u2, e0, r1, r2⟩ := vals2 r
  subst e0
  cases (show u2 = Value.ref tp from r2)
  obtain ⟨P, Z, p, hx⟩ := kit_ofZ I r1 ty
  obtain ⟨_, its, rv, o, h1, h2, n, h3⟩ := (show ObjOk X.prog X.w H s.heap tp (.tup cs) from I.hok tp _ hT)
  have e3 := ClsV.all k rv
  subst e3
  obtain ⟨oc, od, dt, sl⟩ := o
  simp only at h2 h3
  subst h2 h3
  exact PySem.W.kia_tup Z I.kIn p h1 e hx fun tk => ⟨.bl b, H, I.tok tk, rfl, q⟩
theorem Bv.ty {K : PySem.W.Frag} {B : Amb} {H : Hp} {A : Addr → Prop} {v : V} {d : PyData} (b : Bv K B H A v d) : TyZ K H v (.type (tyN d)) := by
  cases b with
  | d q => cases q with
    | non => exact .inl (.base .non)
    | bl b => exact .inl (.base (.bl b))
    | int i => exact .inl (.base (.int i))
    | str x => exact .inl (.base (.str x))
    | lst e _ _ _ => exact .inl (.base (.lst e))
    | tup e _ _ => exact .inl (.base (.tup e))
    | dct e _ _ => exact tyx_dict e
  | own n q => cases d with
    | list ds => obtain ⟨xs, e, _⟩ := q; exact .inl (.base (.lst e))
    | dict ds => obtain ⟨xs, e, _⟩ := q; exact tyx_dict e
    | _ => exact q.elim
def mIsi (f : PyData → Bool) (m : Rd PyData) : Rd PyData := m.bind fun d => Rd.ok (.bool (f d))
theorem pd_isi {X : Cx} {C : Cn} {pos p q : Pos} {e : Expr} {m : Rd PyData} {n : String} {x : Str} {f : PyData → Bool} (hf : ∀ d, kitB (tyN d) n = some (f d)) (hK : X.K = C.K) (hg : Gl X "isinstance") (hm : X.mg "isinstance" = none)
    (hg2 : Gl X x) (hm2 : X.mg x = none) (hv2 : bootBuiltins x = some (.type n)) (h : PB X C e m) (hv : bootBuiltins "isinstance" = some (.builtin "isinstance") := by decide +kernel) (hn2 : x ≠ "__name__" := by decide) (hd2 : (x == ("__debug__" : Str)) = false := by decide)
    (h1 : starEach [e, .Name x q] X.env = (false, eval e X.env) :: starEach [.Name x q] X.env := by rfl) (h2 : starEach [.Name x q] X.env = (false, eval (.Name x q) X.env) :: starEach [] X.env := by rfl) (h3 : (backTo pos (starEach [.Name x q] X.env)).any (·.1) = false := by rfl) :
    PD X C (.Call (.Name "isinstance" p) [e, .Name x q] [] pos) (mIsi f m) := by
  obtain ⟨te, p1, q1⟩ := h.ex
  refine ⟨_, pe_callB call_isiZ hg hm hv (pa_cons p1 (pa_cons (pe_bltn (v := .ty n) hg2 hm2 hv2 rfl hn2 hd2) pa_nil h2) h1) (by decide) (by decide) h1 h3, fun A E G σ H Q r G' R hm p => ?_⟩
  show te σ H fun x H1 => rIsiZ X.K [x, .ty n] H1 Q
  refine goB q1 R hm p.err fun d G1 v H1 e1 R1 b hm1 => ?_
  cases hm1
  refine ⟨v, .ty n, _, _, f d, rfl, .ty n, by rw [hK]; exact b.ty, kit_ty (hf d), p _ H1 e1 R1.jr (.bl _)⟩
/-- isinstance(x, (list, tuple)) -/
def mIsi2 (f g : PyData → Bool) (m : Rd PyData) : Rd PyData := m.bind fun d => Rd.ok (.bool (f d || g d))
theorem pd_isi2 {X : Cx} {C : Cn} {pos p q q' p2 : Pos} {k2} {e : Expr} {m : Rd PyData} {n n' : String} {x x' : Str} {f f' : PyData → Bool} (hf : ∀ d, kitB (tyN d) n = some (f d)) (hf' : ∀ d, kitB (tyN d) n' = some (f' d)) (hK : X.K = C.K) (hg : Gl X "isinstance") (hm : X.mg "isinstance" = none)
    (hg2 : Gl X x) (hm2 : X.mg x = none) (hv2 : bootBuiltins x = some (.type n)) (hg3 : Gl X x') (hm3 : X.mg x' = none) (hv3 : bootBuiltins x' = some (.type n')) (h : PB X C e m) (hv : bootBuiltins "isinstance" = some (.builtin "isinstance") := by decide +kernel)
    (hn2 : x ≠ "__name__" := by decide) (hd2 : (x == ("__debug__" : Str)) = false := by decide) (hn3 : x' ≠ "__name__" := by decide) (hd3 : (x' == ("__debug__" : Str)) = false := by decide)
    (h1 : starEach [e, .Tuple [.Name x q, .Name x' q'] k2 p2] X.env = (false, eval e X.env) :: starEach [.Tuple [.Name x q, .Name x' q'] k2 p2] X.env := by rfl)
    (h2 : starEach [.Tuple [.Name x q, .Name x' q'] k2 p2] X.env = (false, eval (.Tuple [.Name x q, .Name x' q'] k2 p2) X.env) :: starEach [] X.env := by rfl)
    (h4 : starEach [.Name x q, .Name x' q'] X.env = (false, eval (.Name x q) X.env) :: starEach [.Name x' q'] X.env := by rfl) (h5 : starEach [.Name x' q'] X.env = (false, eval (.Name x' q') X.env) :: starEach [] X.env := by rfl)
    (h3 : (backTo pos (starEach [.Tuple [.Name x q, .Name x' q'] k2 p2] X.env)).any (·.1) = false := by rfl) :
    PD X C (.Call (.Name "isinstance" p) [e, .Tuple [.Name x q, .Name x' q'] k2 p2] [] pos) (mIsi2 f f' m) := by
  obtain ⟨te, p1, q1⟩ := h.ex
  refine ⟨_, pe_callB call_isiTZ hg hm hv (pa_cons p1 (pa_cons (pe_tup (pa_cons (pe_bltn (v := .ty n) hg2 hm2 hv2 rfl hn2 hd2) (pa_cons (pe_bltn (v := .ty n') hg3 hm3 hv3 rfl hn3 hd3) pa_nil h5) h4)) pa_nil h2) h1) (by decide) (by decide) h1 h3, fun A E G σ H Q r G' R hm p => ?_⟩
  show te σ H fun x H1 => 2 ≤ sizeLine ∧ ∀ p, H1 p = none → rIsiTZ X.K [x, .ref p] (upd H1 p (.tup [.ty n, .ty n'])) Q
  refine goB q1 R hm p.err fun d G1 v H1 e1 R1 b hm1 => ⟨sz (by decide), fun a na => ?_⟩
  cases hm1
  have k := Kept.new (o := .tup [.ty n, .ty n']) na
  refine ⟨v, a, _, _, _, f d || f' d, rfl, upd_same, .cons (.ty n) (.cons (.ty n') .nil), by rw [hK]; exact (b.ext k.ext R1.ef).ty, ?_, p _ _ (e1.trans k.ext) (k.jr R1.jr) (.bl _)⟩
  refine kitAny_cons (kit_ty (hf d)) (fun hb => ?_) fun hb => by rw [hb]; rfl
  rw [hb, Bool.false_or]
  exact kitAny_cons (kit_ty (hf' d)) (fun hb => by rw [hb]; rfl) fun hb => by rw [hb]

/-! ### what is walked -/
structure Feeds (K : PySem.W.Frag) (A Z : Addr → Prop) (J : It) (ds : List PyData) (I : Hp → Prop) : Prop where
  stab : ∀ H H', I H → (∀ a o, H a = some o → ¬ Z a → H' a = some o) → Tups H H' → I H'
  go : ∀ i H, i < ds.length → I H → J.go i H
  stop : ∀ H, I H → J.stop ds.length H
  yld : ∀ i H x H' (A' : Addr → Prop), i < ds.length → (∀ a, A' a → (A a ∨ Z a) ∧ H a ≠ none) → I H → J.yld i H x H' → Kept H H' ∧ ∃ d, ds[i]? = some d ∧ Dv K H' A' x d
/-- what may change while it is walked: nothing of the walked -/
inductive Md where
  /-- data is walked: all but data may change -/
  | dat
  /-- what a slot alone holds, too: the draws' objects may change -/
  | bor
  /-- what the slots L hold is walked: all but these -/
  | lok (L : List Nat)
def Md.P (md : Md) (B : Amb) (A : Addr → Prop) (σ : L2.St) (a : Addr) : Prop :=
  match md with
  | .dat => A a
  | .bor => efs B a
  | .lok L => A a ∧ ∀ i ∈ L, σ[i]? ≠ some (some (.ref a))
/-- m: what stays is all but A (of data), or all but the draws' objects (of what a slot alone holds, in an expression) -/
def zc (m : Md) (B : Amb) (A : Addr → Prop) (σ : L2.St) (H : Hp) (Z : Addr → Prop) : Prop := ∀ a, Z a → m.P B A σ a ∨ H a = none
def PostI (md : Md) (C : Cn) (A : Addr → Prop) (σ : L2.St) (H : Hp) (r : Except Exn (List PyData)) (G' : Rng) (R : It → Hp → Prop) : Prop :=
  match r with
  | .ok ds => ∀ J H', Ext C.B H H' → JR C.B G' H' → (∀ Z, zc md C.B A σ H' Z → ∃ I, I H' ∧ Feeds C.K A Z J ds I) → R J H'
  | .error x => PErr C A H x G'
structure PIs (X : Cx) (C : Cn) (md : Md) (tg iter : Expr) (m : Rd (List PyData)) : Prop where
  ex : ∃ wi, PI X tg iter wi ∧ ∀ A E G σ H R r G', Rel C.K C.B A E G σ H → m E G = some (r, G') → PostI md C A σ H r G' R → wi σ H R
/-- an operand -/
def BM (md : Md) (K : PySem.W.Frag) (B : Amb) (H : Hp) (A : Addr → Prop) (σ : L2.St) (v : V) (d : PyData) : Prop :=
  match md with
  | .dat => Dv K H A v d
  | .bor => Bv K B H A v d
  | .lok L => Dv K H A v d ∨ ∃ p, ∃ i ∈ L, v = .ref p ∧ σ[i]? = some (some (.ref p)) ∧ ¬ efs B p ∧ RdAt K H A p d
def PostM (md : Md) (C : Cn) (A : Addr → Prop) (σ : L2.St) (H : Hp) (r : Except Exn PyData) (G' : Rng) (Q : VK) : Prop :=
  match r with
  | .ok d => ∀ v H', Ext C.B H H' → JR C.B G' H' → BM md C.K C.B H' A σ v d → Q v H'
  | .error x => PErr C A H x G'
structure PM (md : Md) (X : Cx) (C : Cn) (e : Expr) (m : Rd PyData) : Prop where
  ex : ∃ te, PE X e te ∧ ∀ A E G σ H Q r G', Rel C.K C.B A E G σ H → m E G = some (r, G') → PostM md C A σ H r G' Q → te σ H Q
theorem PM.D {X : Cx} {C : Cn} {e : Expr} {m : Rd PyData} (h : PD X C e m) : PM .dat X C e m := by
  obtain ⟨te, p, q⟩ := h.ex
  refine ⟨te, p, fun A E G σ H Q r G' R hm k => q A E G σ H Q r G' R hm ?_⟩
  cases r <;> exact k
theorem PM.B {X : Cx} {C : Cn} {e : Expr} {m : Rd PyData} (h : PB X C e m) : PM .bor X C e m := by
  obtain ⟨te, p, q⟩ := h.ex
  refine ⟨te, p, fun A E G σ H Q r G' R hm k => q A E G σ H Q r G' R hm ?_⟩
  cases r <;> exact k
theorem PM.L {L : List Nat} {X : Cx} {C : Cn} {e : Expr} {m : Rd PyData} (h : PD X C e m) : PM (.lok L) X C e m := by
  obtain ⟨te, p, q⟩ := h.ex
  refine ⟨te, p, fun A E G σ H Q r G' R hm k => q A E G σ H Q r G' R hm ?_⟩
  cases r with
  | error x => exact k
  | ok d => exact fun v H' e j b => k v H' e j (.inl b)
/-- a locked slot's own name -/
theorem PM.lk {L : List Nat} (i : Nat) {X : Cx} {C : Cn} {x : Str} {pos : Pos} (hL : i ∈ L) (hN : X.N[i]? = some x := by rfl) (hv : Vis X.env.scope x := by first | exact Or.inl rfl | exact Or.inr (Or.inl rfl) | exact Or.inr (Or.inr rfl)) (hd : (x == ("__debug__" : Str)) = false := by decide)
    (hcd : (x == ("__classdict__" : Str)) = false := by decide) : PM (.lok L) X C (.Name x pos) (mBor i) := by
  refine ⟨_, pe_var hN hv hd hcd, fun A E G σ H Q r G' R hm p => ?_⟩
  unfold mBor at hm
  split at hm
  · rename_i y e
    cases hm
    obtain ⟨v, h1, h2⟩ := R.slot i _ e
    exact ⟨v, h1, p v H (Ext.refl _ _) R.jr (.inl h2)⟩
  · rename_i y e
    cases hm
    obtain ⟨v, h1, q, h2, h3, h4⟩ := R.slot i _ e
    subst h2
    exact ⟨_, h1, p _ H (Ext.refl _ _) R.jr (.inr ⟨q, i, hL, rfl, h1, h3, h4.rd⟩)⟩
  · rename_i y e
    cases hm
    obtain ⟨v, h1, q, h2, h3, h4⟩ := R.slot i _ e
    subst h2
    exact ⟨_, h1, p _ H (Ext.refl _ _) R.jr (.inr ⟨q, i, hL, rfl, h1, h3, h4.rd⟩)⟩
  · cases hm
theorem goM {md : Md} {C : Cn} {te : TE} {m : Rd PyData} {β : Type} {f : PyData → Rd β} {A : Addr → Prop} {E : Evn} {G G' : Rng} {σ : L2.St} {H : Hp} {Q : VK} {r : Except Exn β}
    (q : ∀ A E G σ H Q r G', Rel C.K C.B A E G σ H → m E G = some (r, G') → PostM md C A σ H r G' Q → te σ H Q)
    (R : Rel C.K C.B A E G σ H) (hm : m.bind f E G = some (r, G')) (pe : ∀ x, r = .error x → PErr C A H x G') (k : ∀ d G1 v H1, Ext C.B H H1 → Rel C.K C.B A E G1 σ H1 → BM md C.K C.B H1 A σ v d → f d E G1 = some (r, G') → Q v H1) : te σ H Q := by
  rcases Rd.bind_cases hm with ⟨x, h1, h2⟩ | ⟨d, G1, h1, h2⟩
  · exact q A E G σ H Q _ _ R h1 (pe x h2)
  · exact q A E G σ H Q _ _ R h1 fun v H1 e j b => k d G1 v H1 e (R.ext e j) b h2
theorem BM.b {md : Md} {K : PySem.W.Frag} {B : Amb} {H : Hp} {A : Addr → Prop} {σ : L2.St} {v : V} {d : PyData} (h : BM md K B H A σ v d) : Bv K B H A v d := by
  cases md with
  | dat => exact .d h
  | bor => exact h
  | lok L =>
    rcases h with h | ⟨p, i, _, rfl, _, n, h⟩
    · exact .d h
    · exact .own n h
theorem BM.ext {md : Md} {K : PySem.W.Frag} {B : Amb} {H H' : Hp} {A : Addr → Prop} {σ : L2.St} {v : V} {d : PyData} (e : Ext B H H') (ef : ∀ a, efs B a → A a) (h : BM md K B H A σ v d) : BM md K B H' A σ v d := by
  cases md with
  | dat => exact Dv.ext e ef h
  | bor => exact Bv.ext e ef h
  | lok L =>
    rcases h with h | ⟨p, i, h1, h2, h3, n, h⟩
    · exact .inl (Dv.ext e ef h)
    · exact .inr ⟨p, i, h1, h2, h3, n, h.ext e ef n⟩
/-- the list's own address is not among what changes -/
theorem BM.list {md : Md} {K : PySem.W.Frag} {B : Amb} {H : Hp} {A : Addr → Prop} {σ : L2.St} {v : V} {ds : List PyData} (ef : ∀ a, efs B a → A a) (h : BM md K B H A σ v (.list ds)) : ∃ a xs, v = .ref a ∧ H a = some (.lst xs) ∧ xs.length ≤ sizeLine ∧ Dvs K H A xs ds ∧ ¬ md.P B A σ a := by
  cases md with
  | dat =>
    cases (show Dv K H A v (.list ds) from h) with
    | lst e n z q => exact ⟨_, _, rfl, e, z, q, n⟩
  | bor =>
    cases (show Bv K B H A v (.list ds) from h) with
    | d q => cases q with
      | lst e n z q => exact ⟨_, _, rfl, e, z, q, fun w => n (ef _ w)⟩
    | own n q => obtain ⟨xs, e, z, q⟩ := q; exact ⟨_, _, rfl, e, z, q, n⟩
  | lok L =>
    rcases h with h | ⟨p, i, h1, rfl, h3, n, h⟩
    · cases h with
      | lst e n z q => exact ⟨_, _, rfl, e, z, q, fun w => n w.1⟩
    · obtain ⟨xs, e, z, q⟩ := h
      exact ⟨_, _, rfl, e, z, q, fun w => w.2 i h1 h3⟩
/-- a tuple that stays -/
def TupAt (K : PySem.W.Frag) (H : Hp) (Z : Addr → Prop) (a : Addr) (xs : List V) : Prop := H a = some (.tup xs)
theorem TupAt.sq {K : PySem.W.Frag} {H : Hp} {Z : Addr → Prop} {a : Addr} {xs : List V} (h : TupAt K H Z a xs) : SqT K H a xs := .inl (.inl h)
theorem BM.tuple {md : Md} {K : PySem.W.Frag} {B : Amb} {H : Hp} {A : Addr → Prop} {σ : L2.St} {v : V} {ds : List PyData} (ef : ∀ a, efs B a → A a) (h : BM md K B H A σ v (.tuple ds)) :
    ∃ a xs, v = .ref a ∧ TupAt K H (md.P B A σ) a xs ∧ xs.length ≤ sizeLine ∧ Dvs K H A xs ds := by
  have D : ∀ {Z : Addr → Prop}, (∀ a, Z a → A a) → Dv K H A v (.tuple ds) → ∃ a xs, v = .ref a ∧ TupAt K H Z a xs ∧ xs.length ≤ sizeLine ∧ Dvs K H A xs ds := fun hz h => by
    cases h with
    | tup e z q => exact ⟨_, _, rfl, e, z, q⟩
  cases md with
  | dat => exact D (fun a w => w) h
  | bor =>
    cases (show Bv K B H A v (.tuple ds) from h) with
    | d q => exact D (fun a w => ef a w) q
    | own n q => exact q.elim
  | lok L =>
    rcases h with h | ⟨p, i, h1, rfl, h3, n, h⟩
    · exact D (fun a w => w.1) h
    · exact h.elim

section
variable {K : PySem.W.Frag} {B : Amb} {A Z : Addr → Prop} {H : Hp} {md : Md} {σ : L2.St} {xs ys : List V} {ds es : List PyData} {a b : Addr}
theorem zc.wide (hz : zc md B A σ H Z) (ef : ∀ a, efs B a → A a) : ∀ a, (A a ∨ Z a) → A a ∨ H a = none := fun a q => q.elim .inl fun w => (hz a w).elim (fun w => by
  cases md with
  | dat => exact .inl w
  | bor => exact .inl (ef a w)
  | lok L => exact .inl w.1) .inr
theorem zc.not {o : HO} (hz : zc md B A σ H Z) (n : ¬ md.P B A σ a) (h : H a = some o) : ¬ Z a := fun w => (hz a w).elim n fun q => by rw [q] at h; cases h
theorem stays {A Z : Addr → Prop} {H H' : Hp} (k : ∀ a o, H a = some o → ¬ Z a → H' a = some o) (t : Tups H H') (h : Dvs K H (fun a => A a ∨ Z a) xs ds) : Dvs K H' (fun a => A a ∨ Z a) xs ds :=
  h.step (fun a o q n => ⟨k a o q fun w => n (.inr w), n⟩) t
theorem feed_list (hz : zc md B A σ H Z) (ef : ∀ a, efs B a → A a) (h : H a = some (.lst xs)) (n : ¬ md.P B A σ a) (q : Dvs K H A xs ds) : ∃ I, I H ∧ Feeds K A Z (Itl K a) ds I := by
  refine ⟨fun H => H a = some (.lst xs) ∧ Dvs K H (fun a => A a ∨ Z a) xs ds, ⟨h, q.wide (hz.wide ef)⟩, fun H1 H2 ⟨i1, i2⟩ k t => ⟨k a _ i1 (hz.not n h), stays k t i2⟩, fun i H1 hi ⟨i1, i2⟩ => ?_, fun H1 ⟨i1, i2⟩ => ?_, fun i H1 x H2 A' hi tr ⟨i1, i2⟩ y => ?_⟩
  · rw [← i2.length] at hi
    exact walk_list.goes i H1 hi (.inl (.inl i1))
  · rw [← i2.length]
    exact walk_list.stops H1 (.inl (.inl i1))
  · rw [← i2.length] at hi
    obtain ⟨rfl, e⟩ := walk_list.yields i H1 x H2 hi (.inl (.inl i1)) y
    obtain ⟨d, e1, e2⟩ := i2.get' e
    exact ⟨Kept.refl _, d, e1, e2.anti fun a w => (tr a w).1⟩
theorem tup_stay {Z : Addr → Prop} {H1 H2 : Hp} (t : Tups H1 H2) (h : TupAt K H1 Z a xs) : TupAt K H2 Z a xs := t _ _ h
theorem tup_zc (hz : zc md B A σ H Z) (h : TupAt K H (md.P B A σ) a xs) : TupAt K H Z a xs := h
theorem feed_tup (hz : zc md B A σ H Z) (ef : ∀ a, efs B a → A a) (h : TupAt K H (md.P B A σ) a xs) (q : Dvs K H A xs ds) : ∃ I, I H ∧ Feeds K A Z (Itt K a) ds I := by
  refine ⟨fun H => TupAt K H Z a xs ∧ Dvs K H (fun a => A a ∨ Z a) xs ds, ⟨tup_zc hz h, q.wide (hz.wide ef)⟩, fun H1 H2 ⟨i1, i2⟩ k t => ⟨tup_stay t i1, stays k t i2⟩, fun i H1 hi ⟨i1, i2⟩ => ?_, fun H1 ⟨i1, i2⟩ => ?_, fun i H1 x H2 A' hi tr ⟨i1, i2⟩ y => ?_⟩
  · rw [← i2.length] at hi
    exact walk_tup.goes i H1 hi i1.sq
  · rw [← i2.length]
    exact walk_tup.stops H1 i1.sq
  · rw [← i2.length] at hi
    obtain ⟨rfl, e⟩ := walk_tup.yields i H1 x H2 hi i1.sq y
    obtain ⟨d, e1, e2⟩ := i2.get' e
    exact ⟨Kept.refl _, d, e1, e2.anti fun a w => (tr a w).1⟩
/-- the signs of a text -/
def signsD (x : Str) : List PyData := x.cps.toList.map fun c => .str ⟨#[c]⟩
theorem feed_str {x : Str} : ∃ I, I H ∧ Feeds K A Z (Its x) (signsD x) I := by
  have hl : (signsD x).length = x.cps.size := by simp [signsD]
  refine ⟨fun _ => True, trivial, fun _ _ _ _ _ => trivial, fun i H1 hi _ => ?_, fun H1 _ => ?_, fun i H1 v H2 A' hi tr _ y => ?_⟩
  · rw [hl] at hi
    exact walk_str.goes i H1 hi trivial
  · rw [hl]
    exact walk_str.stops H1 trivial
  · rw [hl] at hi
    obtain ⟨rfl, c, e1, rfl⟩ := walk_str.yields i H1 v H2 hi trivial y
    refine ⟨Kept.refl _, .str ⟨#[c]⟩, ?_, .str _⟩
    simp [signsD, e1]
def rangeD (lo : Int) (n : Nat) : List PyData := (List.range n).map fun (i : Nat) => .int (lo + (i : Int))
theorem feed_range {lo : Int} {n : Nat} : ∃ I, I H ∧ Feeds K A Z (Itr lo n) (rangeD lo n) I := by
  have hl : (rangeD lo n).length = n := by simp [rangeD]
  refine ⟨fun _ => True, trivial, fun _ _ _ _ _ => trivial, fun i H1 hi _ => ?_, fun H1 _ => ?_, fun i H1 v H2 A' hi tr _ y => ?_⟩
  · rw [hl] at hi
    exact walk_range.goes i H1 hi trivial
  · rw [hl]
    exact walk_range.stops H1 trivial
  · rw [hl] at hi
    obtain ⟨rfl, rfl⟩ := walk_range.yields i H1 v H2 hi trivial y
    refine ⟨Kept.refl _, .int (lo + i), ?_, .int _⟩
    simp [rangeD, hi]
/-- pairs, each in a new tuple -/
theorem yld_pair {T : Addr} {x y : V} {d e : PyData} {H : Hp} {A : Addr → Prop} (tr : ∀ a, A a → H a ≠ none) (n : H T = none) (h1 : Dv K H A x d) (h2 : Dv K H A y e) : Kept H (upd H T (.tup [x, y])) ∧ Dv K (upd H T (.tup [x, y])) A (.ref T) (.tuple [d, e]) :=
  ⟨Kept.new n, .tup upd_same (sz (by simp)) (.cons (h1.kept (Kept.new n)) (.cons (h2.kept (Kept.new n)) .nil))⟩
def zipD (ds es : List PyData) : List PyData := List.zipWith (fun d e => .tuple [d, e]) ds es
def enumD (ds : List PyData) : List PyData := zipD (rangeD 0 ds.length) ds
theorem feed_zip (hz : zc md B A σ H Z) (ef : ∀ a, efs B a → A a) (h : H a = some (.lst xs)) (n : ¬ md.P B A σ a) (q : Dvs K H A xs ds)
    (h' : H b = some (.lst ys)) (n' : ¬ md.P B A σ b) (q' : Dvs K H A ys es) : ∃ I, I H ∧ Feeds K A Z (Itz K a b) (zipD ds es) I := by
  have hl : ∀ {H}, Dvs K H (fun a => A a ∨ Z a) xs ds → Dvs K H (fun a => A a ∨ Z a) ys es → (zipD ds es).length = min xs.length ys.length := fun q q' => by rw [zipD, List.length_zipWith, q.length, q'.length]
  refine ⟨fun H => (H a = some (.lst xs) ∧ H b = some (.lst ys)) ∧ Dvs K H (fun a => A a ∨ Z a) xs ds ∧ Dvs K H (fun a => A a ∨ Z a) ys es, ⟨⟨h, h'⟩, q.wide (hz.wide ef), q'.wide (hz.wide ef)⟩,
    fun H1 H2 ⟨⟨i1, i2⟩, i3, i4⟩ k t => ⟨⟨k a _ i1 (hz.not n h), k b _ i2 (hz.not n' h')⟩, stays k t i3, stays k t i4⟩, fun i H1 hi ⟨⟨i1, i2⟩, i3, i4⟩ => ?_, fun H1 ⟨⟨i1, i2⟩, i3, i4⟩ => ?_, fun i H1 x H2 A' hi tr ⟨⟨i1, i2⟩, i3, i4⟩ y => ?_⟩
  · rw [hl i3 i4] at hi
    exact (walk_zip rfl).goes i H1 hi ⟨.inl (.inl i1), .inl (.inl i2)⟩
  · rw [hl i3 i4]
    exact (walk_zip rfl).stops H1 ⟨.inl (.inl i1), .inl (.inl i2)⟩
  · rw [hl i3 i4] at hi
    obtain ⟨T, u, v, rfl, nT, rfl, e1, e2⟩ := (walk_zip rfl).yields i H1 x H2 hi ⟨.inl (.inl i1), .inl (.inl i2)⟩ y
    obtain ⟨d, f1, f2⟩ := i3.get' e1
    obtain ⟨e, g1, g2⟩ := i4.get' e2
    obtain ⟨k1, k2⟩ := yld_pair (fun a w => (tr a w).2) nT (f2.anti fun a w => (tr a w).1) (g2.anti fun a w => (tr a w).1)
    exact ⟨k1, _, by simp [zipD, List.getElem?_zipWith, f1, g1], k2⟩
theorem feed_zipT (hz : zc md B A σ H Z) (ef : ∀ a, efs B a → A a) (h : TupAt K H (md.P B A σ) a xs) (q : Dvs K H A xs ds)
    (h' : TupAt K H (md.P B A σ) b ys) (q' : Dvs K H A ys es) : ∃ I, I H ∧ Feeds K A Z (RZ.ItzT K a b) (zipD ds es) I := by
  have hl : ∀ {H}, Dvs K H (fun a => A a ∨ Z a) xs ds → Dvs K H (fun a => A a ∨ Z a) ys es → (zipD ds es).length = min xs.length ys.length := fun q q' => by rw [zipD, List.length_zipWith, q.length, q'.length]
  refine ⟨fun H => (TupAt K H Z a xs ∧ TupAt K H Z b ys) ∧ Dvs K H (fun a => A a ∨ Z a) xs ds ∧ Dvs K H (fun a => A a ∨ Z a) ys es, ⟨⟨tup_zc hz h, tup_zc hz h'⟩, q.wide (hz.wide ef), q'.wide (hz.wide ef)⟩,
    fun H1 H2 ⟨⟨i1, i2⟩, i3, i4⟩ k t => ⟨⟨tup_stay t i1, tup_stay t i2⟩, stays k t i3, stays k t i4⟩, fun i H1 hi ⟨⟨i1, i2⟩, i3, i4⟩ => ?_, fun H1 ⟨⟨i1, i2⟩, i3, i4⟩ => ?_, fun i H1 x H2 A' hi tr ⟨⟨i1, i2⟩, i3, i4⟩ y => ?_⟩
  · rw [hl i3 i4] at hi
    have h1 : i < xs.length := by omega
    have h2 : i < ys.length := by omega
    exact ⟨xs, ys, xs[i], ys[i], i1.sq, i2.sq, by simp [h1], by simp [h2]⟩
  · rw [hl i3 i4]
    exact ⟨xs, ys, i1.sq, i2.sq, by omega⟩
  · obtain ⟨T, u, v, rfl, nT, rfl, e1, e2⟩ := y
    obtain ⟨d, f1, f2⟩ := i3.get' (e1 xs i1.sq)
    obtain ⟨e, g1, g2⟩ := i4.get' (e2 ys i2.sq)
    obtain ⟨k1, k2⟩ := yld_pair (fun a w => (tr a w).2) nT (f2.anti fun a w => (tr a w).1) (g2.anti fun a w => (tr a w).1)
    exact ⟨k1, _, by simp [zipD, List.getElem?_zipWith, f1, g1], k2⟩
theorem feed_enum (hz : zc md B A σ H Z) (ef : ∀ a, efs B a → A a) (h : H a = some (.lst xs)) (n : ¬ md.P B A σ a) (q : Dvs K H A xs ds) : ∃ I, I H ∧ Feeds K A Z (Ite K a) (enumD ds) I := by
  have hl : (enumD ds).length = ds.length := by simp [enumD, zipD, rangeD]
  refine ⟨fun H => H a = some (.lst xs) ∧ Dvs K H (fun a => A a ∨ Z a) xs ds, ⟨h, q.wide (hz.wide ef)⟩, fun H1 H2 ⟨i1, i2⟩ k t => ⟨k a _ i1 (hz.not n h), stays k t i2⟩, fun i H1 hi ⟨i1, i2⟩ => ?_, fun H1 ⟨i1, i2⟩ => ?_, fun i H1 x H2 A' hi tr ⟨i1, i2⟩ y => ?_⟩
  · rw [hl, ← i2.length] at hi
    exact walk_enum.goes i H1 hi (.inl (.inl i1))
  · rw [hl, ← i2.length]
    exact walk_enum.stops H1 (.inl (.inl i1))
  · rw [hl, ← i2.length] at hi
    obtain ⟨T, u, v, rfl, nT, rfl, e1, e2⟩ := walk_enum.yields i H1 x H2 hi (.inl (.inl i1)) y
    obtain ⟨d, f1, f2⟩ := i2.get' e2
    cases e1
    obtain ⟨k1, k2⟩ := yld_pair (fun a w => (tr a w).2) nT (.int (i : Nat)) (f2.anti fun a w => (tr a w).1)
    refine ⟨k1, _, ?_, k2⟩
    have hi' : i < ds.length := by rw [← i2.length]; exact hi
    simp [enumD, zipD, List.getElem?_zipWith, f1, rangeD, hi']
    exact (List.getElem?_eq_some_iff.mp f1).2
end

/-! ### over a list, a tuple, a text -/
def iSq (K : PySem.W.Frag) (te : TE) : TI := fun σ H R => te σ H fun x H1 => (∃ a xs, x = .ref a ∧ SqL K H1 a xs ∧ R (Itl K a) H1) ∨ (∃ a xs, x = .ref a ∧ SqT K H1 a xs ∧ R (Itt K a) H1) ∨ ∃ z, x = .str z ∧ R (Its z) H1
theorem pi_sq {X : Cx} {tg e : Expr} {te : TE} (he : PE X e te) : PI X tg e (iSq X.K te) := by
  refine ⟨fun pins s σ H R I h => thn (he.run pins s σ H _ I h) fun v s1 ⟨x, H1, I1, r1, q⟩ => ?_⟩
  rcases q with ⟨a, xs, rfl, hq, q⟩ | ⟨a, xs, rfl, hq, q⟩ | ⟨z, rfl, q⟩
  · cases r1
    obtain ⟨its, _, p, _⟩ := I1.list hq
    exact wpAny_pyIter_list p.isList (pi_one (tk := s1.toks) I1 _ (turn_list a _) ⟨_, Heap.get?_push_size _ rfl, rfl, rfl⟩ q)
  · cases r1
    obtain ⟨its, _, p, _⟩ := I1.tuple hq
    exact wpAny_pyIter_tuple p (pi_one (tk := s1.toks) I1 _ (turn_tuple a _) ⟨_, Heap.get?_push_size _ rfl, rfl, rfl⟩ q)
  · obtain ⟨t, rfl⟩ := r1
    by_cases ha : z.cps.all (· < 128) = true
    · exact wpAny_pyIter_ascii ha (pi_one (tk := s1.toks) I1 _ (turn_str _ z t _ (.inl rfl)) ⟨_, Heap.get?_push_size _ rfl, rfl, rfl⟩ q)
    · exact wpAny_pyIter_wide (by simpa using ha) (pi_one (tk := s1.toks) I1 _ (turn_str _ z t _ (.inr rfl)) ⟨_, Heap.get?_push_size _ rfl, rfl, rfl⟩ q)
def itemsOf : PyData → Option (List PyData)
  | .list ds => some ds
  | .tuple ds => some ds
  | .str x => some (signsD x)
  | _ => none
def mIt (m : Rd PyData) : Rd (List PyData) := m.bind fun d => Rd.lift (itemsOf d)
section
variable {X : Cx} {C : Cn} {md : Md} {tg e e2 : Expr} {m m2 : Rd PyData} {p pos tpos : Pos} {elts : List Expr} {kk : Nat}
theorem pis_sq (hK : X.K = C.K) (h : PM md X C e m) : PIs X C md tg e (mIt m) := by
  obtain ⟨te, p1, q1⟩ := h.ex
  refine ⟨_, pi_sq p1, fun A E G σ H R r G' Rl hm p => ?_⟩
  refine goM q1 Rl hm (fun x hx => by subst hx; exact p) fun d G1 v H1 e1 R1 b hm1 => ?_
  obtain ⟨ds, hd, rfl, rfl⟩ := Rd.lift_cases hm1
  unfold itemsOf at hd
  split at hd
  · cases hd
    obtain ⟨a, xs, rfl, h1, h2, h3, h4⟩ := b.list R1.ef
    exact .inl ⟨a, xs, rfl, .inl (.inl h1), p _ H1 e1 R1.jr fun Z hz => by rw [hK]; exact feed_list hz R1.ef h1 h4 h3⟩
  · cases hd
    obtain ⟨a, xs, rfl, h1, h2, h3⟩ := b.tuple R1.ef
    exact .inr (.inl ⟨a, xs, rfl, by rw [hK]; exact h1.sq, p _ H1 e1 R1.jr fun Z hz => by rw [hK]; exact feed_tup hz R1.ef h1 h3⟩)
  · cases hd
    cases b.b.str
    exact .inr (.inr ⟨_, rfl, p _ H1 e1 R1.jr fun Z hz => feed_str⟩)
  · cases hd
def mRange1 (m : Rd PyData) : Rd (List PyData) := m.bind fun d => Rd.lift ((asI d).bind fun j => if -100000 ≤ j ∧ j ≤ 100000 then some (rangeD 0 j.toNat) else none)
def mRange2 (m1 m2 : Rd PyData) : Rd (List PyData) := m1.bind fun d => m2.bind fun e => Rd.lift ((asI d).bind fun i => (asI e).bind fun j => if -100000 ≤ i ∧ i ≤ 100000 ∧ -100000 ≤ j ∧ j ≤ 100000 then some (rangeD i (j - i).toNat) else none)
theorem asI_some {d : PyData} {i : Int} (h : asI d = some i) : d = .int i := by cases d <;> cases h; rfl
theorem pis_range1 (hg : Gl X "range") (hm : X.mg "range" = none) (h : PB X C e m) (hs : starEach [e] X.env = [(false, eval e X.env)] := by rfl) : PIs X C md tg (.Call (.Name "range" p) [e] [] pos) (mRange1 m) := by
  obtain ⟨te, p1, q1⟩ := h.ex
  refine ⟨_, pi_range1 hg hm (pa_cons p1 pa_nil hs) hs, fun A E G σ H R r G' Rl hm p => ?_⟩
  show te σ H fun x H1 => ∃ j : Int, [x] = [V.int j] ∧ -(2 ^ 62) ≤ j ∧ j < 2 ^ 62 ∧ R (Itr 0 j.toNat) H1
  refine goB q1 Rl hm (fun x hx => by subst hx; exact p) fun d G1 v H1 e1 R1 b hm1 => ?_
  obtain ⟨ds, hd, rfl, rfl⟩ := Rd.lift_cases hm1
  obtain ⟨j, hj, hd1⟩ := Option.bind_eq_some_iff.mp hd
  obtain rfl := asI_some hj
  split at hd1
  · cases hd1
    cases b.int
    exact ⟨j, rfl, by omega, by omega, p _ H1 e1 R1.jr fun Z hz => feed_range⟩
  · cases hd1
theorem pis_range2 (hg : Gl X "range") (hm : X.mg "range" = none) (h : PB X C e m) (h' : PB X C e2 m2) (hs : starEach [e, e2] X.env = [(false, eval e X.env), (false, eval e2 X.env)] := by rfl) (hs2 : starEach [e2] X.env = [(false, eval e2 X.env)] := by rfl) :
    PIs X C md tg (.Call (.Name "range" p) [e, e2] [] pos) (mRange2 m m2) := by
  obtain ⟨te, p1, q1⟩ := h.ex
  obtain ⟨te2, p2, q2⟩ := h'.ex
  refine ⟨_, pi_range2 hg hm (pa_cons p1 (pa_cons p2 pa_nil hs2) (by rw [hs, hs2])) hs hs2, fun A E G σ H R r G' Rl hm p => ?_⟩
  show te σ H fun x H1 => te2 σ H1 fun y H2 => ∃ i j : Int, [x, y] = [V.int i, V.int j] ∧ (-(2 ^ 62) ≤ i ∧ i < 2 ^ 62 ∧ -(2 ^ 62) ≤ j ∧ j < 2 ^ 62) ∧ R (Itr i (j - i).toNat) H2
  refine goB q1 Rl hm (fun x hx => by subst hx; exact p) fun d G1 v H1 e1 R1 b hm1 => ?_
  refine goB q2 R1 hm1 (fun x hx => by subst hx; exact PErr.ext e1 p) fun d2 G2 v2 H2 e2 R2 b2 hm2 => ?_
  obtain ⟨ds, hd, rfl, rfl⟩ := Rd.lift_cases hm2
  obtain ⟨i, hi, hd1⟩ := Option.bind_eq_some_iff.mp hd
  obtain ⟨j, hj, hd2⟩ := Option.bind_eq_some_iff.mp hd1
  obtain rfl := asI_some hi
  obtain rfl := asI_some hj
  split at hd2
  · cases hd2
    cases b.int; cases b2.int
    exact ⟨i, j, rfl, by omega, p _ H2 (e1.trans e2) R2.jr fun Z hz => feed_range⟩
  · cases hd2
def mEnum (m : Rd PyData) : Rd (List PyData) := m.bind fun d => Rd.lift (match d with | .list ds => some (enumD ds) | _ => none)
theorem pis_enum (hK : X.K = C.K) (hg : Gl X "enumerate") (hm : X.mg "enumerate" = none) (h : PM md X C e m) (hs : starEach [e] X.env = [(false, eval e X.env)] := by rfl) : PIs X C md (.Tuple elts kk tpos) (.Call (.Name "enumerate" p) [e] [] pos) (mEnum m) := by
  obtain ⟨te, p1, q1⟩ := h.ex
  refine ⟨_, pi_enum hg hm (pa_cons p1 pa_nil hs) hs, fun A E G σ H R r G' Rl hm p => ?_⟩
  show te σ H fun x H1 => ∃ a xs, [x] = [V.ref a] ∧ SqL X.K H1 a xs ∧ R (Ite X.K a) H1
  refine goM q1 Rl hm (fun x hx => by subst hx; exact p) fun d G1 v H1 e1 R1 b hm1 => ?_
  obtain ⟨ds, hd, rfl, rfl⟩ := Rd.lift_cases hm1
  split at hd
  · cases hd
    obtain ⟨a, xs, rfl, h1, h2, h3, h4⟩ := b.list R1.ef
    exact ⟨a, xs, rfl, .inl (.inl h1), p _ H1 e1 R1.jr fun Z hz => by rw [hK]; exact feed_enum hz R1.ef h1 h4 h3⟩
  · cases hd
def zip2 : PyData → PyData → Option (List PyData)
  | .list ds, .list es => some (zipD ds es)
  | .tuple ds, .tuple es => some (zipD ds es)
  | _, _ => none
def mZip (m1 m2 : Rd PyData) : Rd (List PyData) := m1.bind fun d => m2.bind fun e => Rd.lift (zip2 d e)
theorem pis_zip (hK : X.K = C.K) (hg : Gl X "zip") (hm : X.mg "zip" = none) (h : PM md X C e m) (h' : PM md X C e2 m2) (hs : starEach [e, e2] X.env = (false, eval e X.env) :: starEach [e2] X.env := by rfl) (hs2 : starEach [e2] X.env = (false, eval e2 X.env) :: starEach [] X.env := by rfl)
    (hpl : (backTo pos (starEach [e2] X.env)).any (·.1) = false := by rfl) : PIs X C md (.Tuple elts kk tpos) (.Call (.Name "zip" p) [e, e2] [] pos) (mZip m m2) := by
  obtain ⟨te, p1, q1⟩ := h.ex
  obtain ⟨te2, p2, q2⟩ := h'.ex
  refine ⟨_, RZ.pi_zipA hg hm (pa_cons p1 (pa_cons p2 pa_nil hs2) hs) hs hpl, fun A E G σ H R r G' Rl hm p => ?_⟩
  show te σ H fun x H1 => te2 σ H1 fun y H2 => ∃ a b xs ys, [x, y] = [V.ref a, V.ref b] ∧ ((SqL X.K H2 a xs ∧ SqL X.K H2 b ys ∧ R (Itz X.K a b) H2) ∨ (SqT X.K H2 a xs ∧ SqT X.K H2 b ys ∧ R (RZ.ItzT X.K a b) H2))
  refine goM q1 Rl hm (fun x hx => by subst hx; exact p) fun d G1 v H1 e1 R1 b hm1 => ?_
  refine goM q2 R1 hm1 (fun x hx => by subst hx; exact PErr.ext e1 p) fun d2 G2 v2 H2 e2 R2 b2 hm2 => ?_
  obtain ⟨ds, hd, rfl, rfl⟩ := Rd.lift_cases hm2
  unfold zip2 at hd
  have b' := b.ext e2 R1.ef
  split at hd
  · cases hd
    obtain ⟨a, xs, rfl, h1, h2, h3, h4⟩ := b'.list R2.ef
    obtain ⟨c, ys, rfl, g1, g2, g3, g4⟩ := b2.list R2.ef
    exact ⟨a, c, xs, ys, rfl, .inl ⟨.inl (.inl h1), .inl (.inl g1), p _ H2 (e1.trans e2) R2.jr fun Z hz => by rw [hK]; exact feed_zip hz R2.ef h1 h4 h3 g1 g4 g3⟩⟩
  · cases hd
    obtain ⟨a, xs, rfl, h1, h2, h3⟩ := b'.tuple R2.ef
    obtain ⟨c, ys, rfl, g1, g2, g3⟩ := b2.tuple R2.ef
    exact ⟨a, c, xs, ys, rfl, .inr ⟨by rw [hK]; exact h1.sq, by rw [hK]; exact g1.sq, p _ H2 (e1.trans e2) R2.jr fun Z hz => by rw [hK]; exact feed_zipT hz R2.ef h1 h3 g1 g3⟩⟩
  · cases hd
end
end Zd

set_option maxRecDepth 100000
set_option maxHeartbeats 4000000
namespace Zd
open PySem L2
open PyProof.Rows hiding St

/-! ### targets -/
abbrev Tg := PyData → Evn → Option Evn
abbrev Tgs := List PyData → Evn → Option Evn
/-- the slots ss alone are set, with data -/
def TgOk (ss : List Nat) (E E' : Evn) : Prop := E'.length = E.length ∧ (∀ i, i ∉ ss → E'[i]? = E[i]?) ∧ ∀ i, i ∈ ss → ∀ ev, E'[i]? = some (some ev) → ∃ x, ev = .d x
def Agree (ss : List Nat) (σ σ' : L2.St) : Prop := σ'.length = σ.length ∧ ∀ i, i ∉ ss → σ'[i]? = σ[i]?
structure PGd (X : Cx) (C : Cn) (tg : Expr) (f : Tg) (ss : List Nat) : Prop where
  ok : ∀ d E E', f d E = some E' → TgOk ss E E'
  ex : ∃ g, PG X tg g ∧ ∀ A v d E E' G σ H Q, Rel C.K C.B A E G σ H → Dv C.K H A v d → f d E = some E' → (∀ σ', Rel C.K C.B A E' G σ' H → Agree ss σ σ' → Q σ' H) → g v σ H Q
structure PGsd (X : Cx) (C : Cn) (tgs : List Expr) (f : Tgs) (ss : List Nat) : Prop where
  ok : ∀ d E E', f d E = some E' → TgOk ss E E'
  ex : ∃ g, PGs X tgs g ∧ ∀ A vs ds E E' G σ H Q, Rel C.K C.B A E G σ H → Dvs C.K H A vs ds → f ds E = some E' → (∀ σ', Rel C.K C.B A E' G σ' H → Agree ss σ σ' → Q σ' H) → g vs σ H Q
def tgN (i : Nat) : Tg := fun d E => some (E.set i (some (.d d)))
def tgNil : Tgs := fun ds E => match ds with
  | [] => some E
  | _ => none
def tgCons (f : Tg) (g : Tgs) : Tgs := fun ds E => match ds with
  | d :: r => (f d E).bind (g r)
  | [] => none
def tgT (n : Nat) (f : Tgs) : Tg := fun d E => match d with
  | .tuple ds => if ds.length = n then f ds E else none
  | _ => none
theorem Rel.set {K : PySem.W.Frag} {B : Amb} {A : Addr → Prop} {E : Evn} {G : Rng} {σ : L2.St} {H : Hp} {i : Nat} {v : V} {ev : EV} (R : Rel K B A E G σ H) (h : RelEV K B A H v ev) : Rel K B A (E.set i (some ev)) G (σ.set i (some v)) H := by
  refine ⟨fun j e q => ?_, R.jr, R.trk, R.ef, by rw [List.length_set, List.length_set, R.len]⟩
  by_cases hj : i = j
  · subst hj
    by_cases hi : i < E.length
    · rw [List.getElem?_set_self hi] at q
      cases q
      exact ⟨v, by rw [List.getElem?_set_self (by rw [← R.len]; exact hi)], h⟩
    · rw [List.getElem?_eq_none (by simpa using hi)] at q
      cases q
  · rw [List.getElem?_set_ne hj] at q ⊢
    exact R.slot j e q
section
variable {X : Cx} {C : Cn} {pos : Pos}
theorem pgd_name (i : Nat) {x : Str} (hN : X.N.Nodup) (hi : X.N[i]? = some x := by rfl) (hx : Loc X.env.scope x := by first | exact Or.inl rfl | exact Or.inr rfl) (hf : X.fn x = true ∨ X.env.scope.names.lookup x = some .local := by first | exact .inl rfl | exact .inr rfl | assumption) :
    PGd X C (.Name x pos) (tgN i) [i] := by
  refine ⟨fun d E E' h => ?_, _, pg_name hN hi hx hf, fun A v d E E' G σ H Q R hv h k => ?_⟩
  · cases h
    refine ⟨by simp, fun j hj => ?_, fun j hj ev q => ?_⟩
    · rw [List.getElem?_set_ne (by simpa using fun e => hj (by simp [e]))]
    · have e : j = i := by simpa using hj
      subst e
      by_cases hi : j < E.length
      · rw [List.getElem?_set_self hi] at q; cases q; exact ⟨d, rfl⟩
      · rw [List.getElem?_eq_none (by simpa using hi)] at q; cases q
  · cases h
    exact k _ (R.set hv) ⟨by simp, fun j hj => by rw [List.getElem?_set_ne (by simpa using fun e => hj (by simp [e]))]⟩
theorem pgsd_nil : PGsd X C [] tgNil [] := by
  refine ⟨fun d E E' h => ?_, _, pgs_nil, fun A v d E E' G σ H Q R hv h k => ?_⟩
  · unfold tgNil at h
    split at h
    · cases h; exact ⟨rfl, fun _ _ => rfl, fun i hi => by simp at hi⟩
    · cases h
  · unfold tgNil at h
    split at h
    · cases h; cases hv; exact ⟨rfl, k σ R ⟨rfl, fun _ _ => rfl⟩⟩
    · cases h
theorem pgsd_cons {e : Expr} {es : List Expr} {f : Tg} {g : Tgs} {s1 s2 : List Nat} (h1 : PGd X C e f s1) (h2 : PGsd X C es g s2) (hs : (assignEach (e :: es) X.env).map (·.2) = assign e X.env :: (assignEach es X.env).map (·.2) := by rfl) : PGsd X C (e :: es) (tgCons f g) (s1 ++ s2) := by
  obtain ⟨ok1, g1, p1, q1⟩ := h1
  obtain ⟨ok2, g2, p2, q2⟩ := h2
  refine ⟨fun d E E' h => ?_, _, pgs_cons p1 p2 hs, fun A v d E E' G σ H Q R hv h k => ?_⟩
  · unfold tgCons at h
    split at h
    · obtain ⟨E1, e1, e2⟩ := Option.bind_eq_some_iff.mp h
      obtain ⟨a1, a2, a3⟩ := ok1 _ _ _ e1
      obtain ⟨b1, b2, b3⟩ := ok2 _ _ _ e2
      refine ⟨b1.trans a1, fun i hi => ?_, fun i hi ev q => ?_⟩
      · rw [b2 i fun z => hi (List.mem_append_right _ z), a2 i fun z => hi (List.mem_append_left _ z)]
      · by_cases hm : i ∈ s2
        · exact b3 i hm ev q
        · rw [b2 i hm] at q
          exact a3 i ((List.mem_append.mp hi).resolve_right hm) ev q
    · cases h
  · unfold tgCons at h
    split at h
    · rename_i d0 r
      obtain ⟨E1, e1, e2⟩ := Option.bind_eq_some_iff.mp h
      cases hv with
      | cons hv1 hv2 =>
        refine ⟨_, _, rfl, q1 A _ _ E E1 G σ H _ R hv1 e1 fun σ1 R1 ag1 => ?_⟩
        refine q2 A _ _ E1 E' G σ1 H _ R1 hv2 e2 fun σ2 R2 ag2 => k σ2 R2 ⟨ag2.1.trans ag1.1, fun i hi => ?_⟩
        rw [ag2.2 i fun z => hi (List.mem_append_right _ z), ag1.2 i fun z => hi (List.mem_append_left _ z)]
    · cases h
theorem pgd_tup {es : List Expr} {kk : Nat} {f : Tgs} {ss : List Nat} {n : Nat} (hK : X.K = C.K) (hc : X.calm = true) (h : PGsd X C es f ss) (hn : (assignEach es X.env).length = n := by rfl) (hst : (assignEach es X.env).findIdx? (·.1) = none := by rfl) : PGd X C (.Tuple es kk pos) (tgT n f) ss := by
  obtain ⟨ok1, g1, p1, q1⟩ := h
  refine ⟨fun d E E' h => ?_, _, pg_tup hc p1 hn hst, fun A v d E E' G σ H Q R hv h k => ?_⟩
  · unfold tgT at h
    split at h
    · split at h
      · exact ok1 _ _ _ h
      · cases h
    · cases h
  · unfold tgT at h
    split at h
    · split at h
      · rename_i hz
        obtain ⟨a, xs, rfl, h1, h2, h3⟩ := (Bv.d (B := C.B) hv).tuple
        exact ⟨a, xs, rfl, by rw [hK]; exact h1, by rw [h3.length]; exact hz, q1 A xs _ E E' G σ H Q R h3 h k⟩
      · cases h
    · cases h
end

/-! ### the block of a comprehension -/
def wipeE (E : Evn) : List Nat → Evn
  | [] => E
  | v :: vs => (wipeE E vs).set v none
theorem wipeE_length (E : Evn) : ∀ vs : List Nat, (wipeE E vs).length = E.length
  | [] => rfl
  | v :: vs => by unfold wipeE; rw [List.length_set, wipeE_length E vs]
theorem wipeE_some {E : Evn} {i : Nat} {x : EV} : ∀ {vs : List Nat}, (wipeE E vs)[i]? = some (some x) → E[i]? = some (some x) ∧ i ∉ vs
  | [], h => ⟨h, by simp⟩
  | v :: vs, h => by
    unfold wipeE at h
    by_cases hi : v = i
    · subst hi
      by_cases hv : v < (wipeE E vs).length
      · rw [List.getElem?_set_self hv] at h; cases h
      · rw [List.getElem?_eq_none (by simpa using hv)] at h; cases h
    · rw [List.getElem?_set_ne hi] at h
      obtain ⟨h1, h2⟩ := wipeE_some h
      exact ⟨h1, by simp only [List.mem_cons, not_or]; exact ⟨fun e => hi e.symm, h2⟩⟩
theorem wipe_in {σ : L2.St} {i : Nat} : ∀ {vs : List Nat}, i ∈ vs → i < σ.length → (wipe σ vs)[i]? = some none
  | v :: vs, h, hl => by
    unfold wipe
    by_cases hi : v = i
    · subst hi
      rw [List.getElem?_set_self (by rw [wipe_length]; exact hl)]
    · rw [List.getElem?_set_ne hi]
      exact wipe_in ((List.mem_cons.mp h).resolve_left fun e => hi e.symm) hl
theorem wipe_agree {σ σ' : L2.St} {ss vs : List Nat} (h : Agree ss σ σ') (hs : ∀ i ∈ ss, i ∈ vs) : wipe σ' vs = wipe σ vs := by
  apply List.ext_getElem?
  intro i
  by_cases hi : i ∈ vs
  · by_cases hl : i < σ.length
    · rw [wipe_in hi hl, wipe_in hi (by rw [h.1]; exact hl)]
    · rw [List.getElem?_eq_none (by rw [wipe_length, h.1]; omega), List.getElem?_eq_none (by rw [wipe_length]; omega)]
  · rw [wipe_out hi, wipe_out hi, h.2 i fun z => hi (hs i z)]
theorem wipe_twice {σ : L2.St} {vs : List Nat} : wipe (wipe σ vs) vs = wipe σ vs := wipe_agree (ss := vs) ⟨wipe_length σ vs, fun i hi => wipe_out hi⟩ fun _ h => h
theorem Rel.wipe {K : PySem.W.Frag} {B : Amb} {A : Addr → Prop} {E : Evn} {G : Rng} {σ : L2.St} {H : Hp} (R : Rel K B A E G σ H) (vs : List Nat) : Rel K B A (wipeE E vs) G (L2.wipe σ vs) H :=
  ⟨fun i ev q => by
    obtain ⟨h1, h2⟩ := wipeE_some q
    obtain ⟨v, h3, h4⟩ := R.slot i ev h1
    exact ⟨v, by rw [wipe_out h2]; exact h3, h4⟩, R.jr, R.trk, R.ef, by rw [wipeE_length, wipe_length, R.len]⟩
/-- more is to be avoided: a new address -/
theorem Rel.more {K : PySem.W.Frag} {B : Amb} {A A' : Addr → Prop} {E : Evn} {G : Rng} {σ : L2.St} {H : Hp} (R : Rel K B A E G σ H) (h : ∀ a, A' a → A a ∨ H a = none) (ha : ∀ a, A a → A' a) {H' : Hp} (k : Kept H H') (t : ∀ a, A' a → H' a ≠ none) : Rel K B A' E G σ H' :=
  ⟨fun i ev q => let ⟨v, h1, h2⟩ := R.slot i ev q; ⟨v, h1, (h2.wide h).ext k.ext fun a w => ha a (R.ef a w)⟩, k.jr R.jr, t, fun a w => ha a (R.ef a w), R.len⟩

def mYes : Rd Bool := Rd.ok true
structure PTsd (X : Cx) (C : Cn) (ifs : List Expr) (m : Rd Bool) : Prop where
  ex : ∃ tt, PTs X ifs tt ∧ ∀ A E G σ H Q r G', Rel C.K C.B A E G σ H → m E G = some (r, G') → PostT C A H r G' Q → tt σ H Q
theorem ptsd_nil {X : Cx} {C : Cn} : PTsd X C [] mYes := by
  refine ⟨_, pts_nil, fun A E G σ H Q r G' R hm p => ?_⟩
  cases hm
  exact p H (Ext.refl _ _) R.jr
theorem ptsd_one {X : Cx} {C : Cn} {c : Expr} {m : Rd Bool} (h : PTs' X C c m) : PTsd X C [c] m := by
  obtain ⟨t, p, q⟩ := h.ex
  exact ⟨t, pts_one p, q⟩

/-- the list that a comprehension makes, from the slots E -/
def lcRun (f : Tg) (tt : Rd Bool) (te : Rd PyData) (E : Evn) : List PyData → Rng → Option (List PyData × Rng)
  | [], G => some ([], G)
  | d :: ds, G => (f d E).bind fun E1 => (tt E1 G).bind fun r => match r with
    | (.error _, _) => none
    | (.ok b, G1) => if b = true then (te E1 G1).bind fun r => (match r with
        | (.error _, _) => none
        | (.ok y, G2) => (lcRun f tt te E ds G2).map fun r => (y :: r.1, r.2)) else lcRun f tt te E ds G1
def mLc (it : Rd (List PyData)) (f : Tg) (tt : Rd Bool) (te : Rd PyData) (vs : List Nat) : Rd PyData := it.bind fun ds E G => if ds.length ≤ 100000 then (lcRun f tt te (wipeE E vs) ds G).map fun r => (.ok (.list r.1), r.2) else none
abbrev Cn.nox (C : Cn) : Cn := { C with EX := fun _ _ _ => False }

/-- one turn of lcRun, read off -/
theorem lcRun_cons {f : Tg} {tt : Rd Bool} {te : Rd PyData} {E : Evn} {d : PyData} {ds : List PyData} {G G' : Rng} {ys : List PyData} (h : lcRun f tt te E (d :: ds) G = some (ys, G')) :
    ∃ E1 b G1, f d E = some E1 ∧ tt E1 G = some (.ok b, G1) ∧ ((b = false ∧ lcRun f tt te E ds G1 = some (ys, G')) ∨ ∃ y G2 zs, b = true ∧ te E1 G1 = some (.ok y, G2) ∧ lcRun f tt te E ds G2 = some (zs, G') ∧ ys = y :: zs) := by
  obtain ⟨E1, e1, h⟩ := Option.bind_eq_some_iff.mp h
  obtain ⟨⟨r, G1⟩, e2, h⟩ := Option.bind_eq_some_iff.mp h
  cases r with
  | error x => cases h
  | ok b =>
    refine ⟨E1, b, G1, e1, e2, ?_⟩
    cases b with
    | false => exact .inl ⟨rfl, h⟩
    | true =>
      obtain ⟨⟨r, G2⟩, e3, h⟩ := Option.bind_eq_some_iff.mp h
      cases r with
      | error x => cases h
      | ok y =>
        obtain ⟨⟨zs, G3⟩, e4, h⟩ := Option.map_eq_some_iff.mp h
        cases h
        exact .inr ⟨y, G2, zs, rfl, e3, e4, rfl⟩
/-- the state of a comprehension ahead of a turn -/
structure LcSt (K : PySem.W.Frag) (B : Amb) (A : Addr → Prop) (D : Addr) (H1 : Hp) (G : Rng) (ys : List PyData) (H : Hp) : Prop where
  keep : ∀ a o, H1 a = some o → ¬ (efs B a ∨ a = D) → H a = some o
  trk : ∀ a, H1 a ≠ none → H a ≠ none
  tup : Tups H1 H
  jr : JR B G H
  lst : ∃ xs, H D = some (.lst xs) ∧ Dvs K H (fun a => A a ∨ a = D) xs ys
theorem rel_past {K : PySem.W.Frag} {B : Amb} {A : Addr → Prop} {D : Addr} {H1 : Hp} {G G0 : Rng} {H : Hp} {E : Evn} {σ : L2.St} (keep : ∀ a o, H1 a = some o → ¬ (efs B a ∨ a = D) → H a = some o) (trk : ∀ a, H1 a ≠ none → H a ≠ none) (tup : Tups H1 H) (jr : JR B G H) (hz : H D ≠ none) (R : Rel K B A E G0 σ H1) (hD : H1 D = none) : Rel K B (fun a => A a ∨ a = D) E G σ H := by
  refine ⟨fun i ev q => ?_, jr, fun a q => ?_, fun a q => .inl (R.ef a q), R.len⟩
  · obtain ⟨v, h1, h2⟩ := R.slot i ev q
    refine ⟨v, h1, ?_⟩
    have w : ∀ a, (A a ∨ a = D) → A a ∨ H1 a = none := fun a z => z.elim .inl fun z => .inr (by rw [z]; exact hD)
    have st : ∀ a o, H1 a = some o → ¬ (A a ∨ a = D) → H a = some o ∧ ¬ (A a ∨ a = D) := fun a o q n => ⟨keep a o q fun z => n (z.imp (R.ef a) id), n⟩
    cases ev with
    | d y => exact (Dv.wide w h2).step st tup
    | own y =>
      obtain ⟨p, e, n, h3⟩ := h2
      exact ⟨p, e, n, (h3.wide w).step (fun o g => keep _ _ g fun z => z.elim n fun z => by rw [z, hD] at g; cases g) st tup⟩
    | lk f y =>
      obtain ⟨p, e, n, h3⟩ := h2
      exact ⟨p, e, n, (h3.wide w).step (fun o g => keep _ _ g fun z => z.elim n fun z => by rw [z, hD] at g; cases g) st tup⟩
    | st => exact h2
    | scr ns =>
      obtain ⟨a, e, z, h3⟩ := h2
      refine ⟨a, e, z, ?_⟩
      rcases h3 with ⟨n, o, h3⟩ | h3
      · exact .inl ⟨n, o, keep _ _ h3 fun z => z.elim n fun z => by rw [z, hD] at h3; cases h3⟩
      · exact .inr h3
  · rcases q with q | q
    · exact trk a (R.trk a q)
    · rw [q]; exact hz
theorem LcSt.rel {K : PySem.W.Frag} {B : Amb} {A : Addr → Prop} {D : Addr} {H1 : Hp} {G G0 : Rng} {ys : List PyData} {H : Hp} {E : Evn} {σ : L2.St} (L : LcSt K B A D H1 G ys H) (R : Rel K B A E G0 σ H1) (hD : H1 D = none) : Rel K B (fun a => A a ∨ a = D) E G σ H := rel_past L.keep L.trk L.tup L.jr (by obtain ⟨xs, h, _⟩ := L.lst; rw [h]; simp) R hD
theorem LcSt.ext {K : PySem.W.Frag} {B : Amb} {A : Addr → Prop} {D : Addr} {H1 : Hp} {G G' : Rng} {ys : List PyData} {H H' : Hp} (L : LcSt K B A D H1 G ys H) (ef : ∀ a, efs B a → A a) (nD : ¬ efs B D) (e : Ext B H H') (j : JR B G' H') : LcSt K B A D H1 G' ys H' :=
  ⟨fun a o q n => e.keep a o (L.keep a o q n) fun z => n (.inl z), fun a q => e.trk a (L.trk a q), fun a xs q => e.tup a xs (L.tup a xs q), j, let ⟨xs, h1, h2⟩ := L.lst; ⟨xs, e.keep D _ h1 nD, h2.ext e fun a z => .inl (ef a z)⟩⟩
theorem nef {B : Amb} {G : Rng} {H : Hp} (j : JR B G H) {D : Addr} (h : H D = none) : ¬ efs B D := by
  cases B with
  | none => exact fun z => z
  | some x =>
    obtain ⟨s, g, c⟩ := x
    obtain ⟨h1, h2, h3, _⟩ := j
    rintro (z | z | z) <;> (rw [z] at h; first | (rw [h1] at h; cases h) | (rw [h2] at h; cases h) | (rw [h3] at h; cases h))
/-- what a comprehension's block is in -/
abbrev Blk (X : Cx) (s : Shared) (H : Hp) (scope : Scope) (C0 : Addr) (cl : List (Str × Addr)) (fp : List Addr) : Cx := X.blk s H scope (compEnvC scope cl C0 X.env) fp
/-! ### one transformer for every block -/
def gS (C : Cn) (f : Tg) (ss : List Nat) : TG := fun v σ H Q => ∃ A d E E' G, Rel C.K C.B A E G σ H ∧ Dv C.K H A v d ∧ f d E = some E' ∧ ∀ σ', Rel C.K C.B A E' G σ' H → Agree ss σ σ' → Q σ' H
theorem PGd.star {X : Cx} {C : Cn} {tg : Expr} {f : Tg} {ss : List Nat} (h : PGd X C tg f ss) : PG X tg (gS C f ss) := by
  obtain ⟨_, g, p, q⟩ := h
  exact ⟨fun pins s σ H v u Q I r ⟨A, d, E, E', G, R, hv, hf, k⟩ => p.run pins s σ H v u Q I r (q A v d E E' G σ H Q R hv hf k)⟩
def tS (C : Cn) (m : Rd Bool) : TT := fun σ H Q => ∃ A E G r G', Rel C.K C.B A E G σ H ∧ m E G = some (r, G') ∧ PostT C A H r G' Q
theorem PTsd.star {X : Cx} {C : Cn} {ifs : List Expr} {m : Rd Bool} (h : PTsd X C ifs m) : PTs X ifs (tS C m) := by
  obtain ⟨t, p, q⟩ := h.ex
  exact ⟨fun pins s σ H Q I ⟨A, E, G, r, G', R, hm, k⟩ => p.run pins s σ H Q I (q A E G σ H Q r G' R hm k)⟩
def eS (C : Cn) (m : Rd PyData) : TE := fun σ H Q => ∃ A E G r G', Rel C.K C.B A E G σ H ∧ m E G = some (r, G') ∧ PostD C A H r G' Q
theorem PD.star {X : Cx} {C : Cn} {e : Expr} {m : Rd PyData} (h : PD X C e m) : PE X e (eS C m) := by
  obtain ⟨t, p, q⟩ := h.ex
  exact ⟨fun pins s σ H Q I ⟨A, E, G, r, G', R, hm, k⟩ => p.run pins s σ H Q I (q A E G σ H Q r G' R hm k)⟩
theorem JR.upd {B : Amb} {G : Rng} {H : Hp} {D : Addr} {o : HO} (j : JR B G H) (n : ¬ efs B D) : JR B G (upd H D o) := by
  cases B with
  | none => trivial
  | some x =>
    obtain ⟨s, g, c⟩ := x
    obtain ⟨h1, h2, h3, h4⟩ := j
    exact ⟨by rw [upd_ne fun z => n (.inl z.symm)]; exact h1, by rw [upd_ne fun z => n (.inr (.inl z.symm))]; exact h2, by rw [upd_ne fun z => n (.inr (.inr z.symm))]; exact h3, h4⟩
/-- D is put anew -/
theorem LcSt.put {K : PySem.W.Frag} {B : Amb} {A : Addr → Prop} {D : Addr} {H1 : Hp} {G : Rng} {ys zs : List PyData} {H : Hp} {xs : List V} (L : LcSt K B A D H1 G ys H) (nD : ¬ efs B D) (h : Dvs K H (fun a => A a ∨ a = D) xs zs) : LcSt K B A D H1 G zs (upd H D (.lst xs)) := by
  have k : ∀ a o, H a = some o → ¬ (A a ∨ a = D) → upd H D (.lst xs) a = some o ∧ ¬ (A a ∨ a = D) := fun a o q n => ⟨by rw [upd_ne fun z => n (.inr z)]; exact q, n⟩
  have ht : Tups H (upd H D (.lst xs)) := tups_upd fun ys e => by
    obtain ⟨zs, h1, _⟩ := L.lst
    rw [h1] at e
    cases e
  refine ⟨fun a o q n => ?_, fun a q => ?_, fun a ys q => ht a ys (L.tup a ys q), ?_, xs, upd_same, h.step k ht⟩
  · rw [upd_ne fun z => n (.inr z)]
    exact L.keep a o q n
  · by_cases z : a = D
    · subst z; rw [upd_same]; simp
    · rw [upd_ne z]; exact L.trk a q
  · exact JR.upd L.jr nD
section
variable {X : Cx} {C : Cn} {pos : Pos} {elt tg iter : Expr} {ifs : List Expr} {scope : Scope} {own : List (Str × Nat)} {mi : Rd (List PyData)} {f : Tg} {mt : Rd Bool} {me : Rd PyData} {ss : List Nat}
theorem lc_t {vs : List Nat} (hi : PIs X C .bor tg iter mi) (hss : ∀ i ∈ ss, i ∈ vs) : ∃ wi, PI X tg iter wi ∧ ∀ A E G σ H Q r G', Rel C.K C.B A E G σ H → mLc mi f mt me vs E G = some (r, G') → PostF C A H r G' Q → tLc wi (gS C.nox f ss) (tS C.nox mt) (eS C.nox me) vs σ H Q := by
  obtain ⟨wi, p1, q1⟩ := hi.ex
  refine ⟨wi, p1, fun A E G σ H Q r G' R hm p => ?_⟩
  rcases Rd.bind_cases hm with ⟨x, e1, h2⟩ | ⟨ds, G1, e1, hm⟩
  · subst h2; exact q1 A E G σ H _ _ _ R e1 p
  · split at hm
    case isFalse => cases hm
    rename_i hz
    obtain ⟨⟨full, G2⟩, e2, hm⟩ := Option.map_eq_some_iff.mp hm
    cases hm
    refine q1 A E G σ H _ _ _ R e1 fun J H1 x1 j1 fd D hD => ?_
    have R1 := R.ext x1 j1
    have nD : ¬ efs C.B D := nef j1 hD
    obtain ⟨I, hI, F⟩ := fd (fun a => efs C.B a ∨ a = D) (fun a z => z.imp id fun z => by rw [z]; exact hD)
    have U : Kept H1 (upd H1 D (.lst [])) := Kept.new hD
    refine ⟨fun i m H => m = ds.length - i ∧ i ≤ ds.length ∧ I H ∧ ∃ ys zs Gi, LcSt C.K C.B A D H1 Gi ys H ∧ ys.length ≤ i ∧ lcRun f mt me (wipeE E vs) (ds.drop i) Gi = some (zs, G2) ∧ ys ++ zs = full, ⟨_, rfl, Nat.zero_le _, F.stab _ _ hI (fun a o q _ => U a o q) (fun a ys q => U a _ q), [], full, G1, ?_, by simp, by simpa using e2, rfl⟩, ?_⟩
    · refine ⟨fun a o q n => U a o q, fun a q => ?_, fun a ys q => U a _ q, U.jr j1, [], upd_same, .nil⟩
      obtain ⟨o, q⟩ := Option.ne_none_iff_exists'.mp q
      rw [U a o q]; simp
    · rintro i m H2 ⟨rfl, hi, hI2, ys, zs, Gi, L, hy, e3, e4⟩
      by_cases hlt : i < ds.length
      · refine .inr ⟨F.go i H2 hlt hI2, fun H' => i + 1 ≤ ds.length ∧ I H' ∧ ∃ ys zs Gi, LcSt C.K C.B A D H1 Gi ys H' ∧ ys.length ≤ i + 1 ∧ lcRun f mt me (wipeE E vs) (ds.drop (i + 1)) Gi = some (zs, G2) ∧ ys ++ zs = full, fun H' h' => ⟨ds.length - (i + 1), by omega, rfl, h'⟩, fun x H3 hy3 => ?_⟩
        have RD : Rel C.K C.B (fun a => A a ∨ a = D) E Gi σ H2 := L.rel R1 hD
        obtain ⟨k3, d, hd, hv⟩ := F.yld i H2 x H3 (fun a => A a ∨ a = D) hlt (fun a z => ⟨z.imp id .inr, RD.trk a z⟩) hI2 hy3
        have R3 := (RD.ext k3.ext (k3.jr RD.jr)).wipe vs
        have L3 := L.ext R.ef nD k3.ext (k3.jr RD.jr)
        have hI3 : I H3 := F.stab _ _ hI2 (fun a o q _ => k3 a o q) fun a ys q => k3 a _ q
        rw [List.drop_eq_getElem_cons hlt] at e3
        have hd' : ds[i] = d := by rw [List.getElem?_eq_getElem hlt] at hd; exact Option.some.inj hd
        rw [hd'] at e3
        obtain ⟨E1, b, G3, f1, f2, f3⟩ := lcRun_cons e3
        refine ⟨_, d, _, E1, Gi, R3, hv, f1, fun σ4 R4 ag => ⟨(wipe_agree ag hss).trans wipe_twice, _, E1, Gi, .ok b, G3, R4, f2, fun H5 x5 j5 => ?_⟩⟩
        have L5 := L3.ext R.ef nD x5 j5
        have hI5 : I H5 := F.stab _ _ hI3 (fun a o q n => x5.keep a o q fun z => n (.inl z)) x5.tup
        rcases f3 with ⟨rfl, f3⟩ | ⟨y, G6, ws, rfl, f3, f4, rfl⟩
        · simp only [Bool.false_eq_true, if_false]
          exact ⟨hlt, hI5, ys, zs, G3, L5, by omega, f3, e4⟩
        · simp only [if_true]
          refine ⟨_, E1, G3, .ok y, G6, R4.ext x5 j5, f3, fun v H7 x7 j7 hv7 => ?_⟩
          have L7 := L5.ext R.ef nD x7 j7
          have hI7 : I H7 := F.stab _ _ hI5 (fun a o q n => x7.keep a o q fun z => n (.inl z)) x7.tup
          obtain ⟨xs, h1, h2⟩ := L7.lst
          have hl := h2.length
          refine ⟨xs, h1, by rw [hl]; have := @sz _ hz; omega, hlt, F.stab _ _ hI7 (fun a o q n => by rw [upd_ne fun z => n (.inr z)]; exact q) (tups_upd fun ys e => by rw [h1] at e; cases e), ys ++ [y], ws, G6, L7.put nD (h2.append (.cons hv7 .nil)), by simp; omega, f4, by simpa using e4⟩
      · have hi' : i = ds.length := by omega
        subst hi'
        refine .inl ⟨F.stop H2 hI2, ?_⟩
        rw [List.drop_length] at e3
        cases e3
        rw [List.append_nil] at e4
        subst e4
        obtain ⟨xs, h1, h2⟩ := L.lst
        exact p D H2 (by
          cases h : H D with
          | none => rfl
          | some o => exact absurd hD (x1.trk D (by rw [h]; simp))) ⟨fun a o q n => L.keep a o (x1.keep a o q n) fun z => z.elim n fun z => by
            rw [z] at q; exact x1.trk D (by rw [q]; simp) hD, fun a q => L.trk a (x1.trk a q), fun a ys q => L.tup a ys (x1.tup a ys q)⟩ L.jr ⟨xs, h1, by rw [h2.length]; have := @sz _ hz; omega, h2⟩
theorem pf_lc (own : List (Str × Nat)) (hc : X.calm = true) (hN : X.N.Nodup) (hi : PIs X C .bor tg iter mi) (ok : BlkOk X.N X.env.scope scope own)
    (hg : ∀ s H C0 cl fp, PGd (Blk X s H scope C0 cl fp) C.nox tg f ss) (ht : ∀ s H C0 cl fp, PTsd (Blk X s H scope C0 cl fp) C.nox ifs mt) (he : ∀ s H C0 cl fp, PD (Blk X s H scope C0 cl fp) C.nox elt me)
    (hss : ∀ i ∈ ss, i ∈ own.map (·.2)) (hs : ∀ x, foldedSetIterable iter X.env x = pure x := by intro _; rfl) : PF X C (.ListComp elt [⟨tg, iter, ifs, 0⟩] scope pos) (mLc mi f mt me (own.map (·.2))) := by
  obtain ⟨wi, p1, q1⟩ := lc_t (me := me) (mt := mt) (f := f) hi hss
  exact ⟨_, pe_lc hc hN p1 ok (fun s H C0 cl fp => (hg s H C0 cl fp).star) (fun s H C0 cl fp => (ht s H C0 cl fp).star) (fun s H C0 cl fp => (he s H C0 cl fp).star) hs, q1⟩
end
end Zd

set_option maxRecDepth 100000
set_option maxHeartbeats 4000000
namespace Zd
open PySem L2
open PyProof.Rows hiding St

/-! ### a dict with one key more -/
def putD (kvs : List (PyData × PyData)) (k : GK) (d : PyData) : List (PyData × PyData) :=
  if (kvs.any fun p => decide (keyOf p.1 = some k)) = true then kvs.map (fun p => if keyOf p.1 = some k then (p.1, d) else p) else kvs ++ [(keyG k, d)]
theorem Dvk.any {K : PySem.W.Frag} {H : Hp} {A : Addr → Prop} (k : GK) : ∀ {ks : List (GK × V)} {kvs : List (PyData × PyData)}, Dvk K H A ks kvs → (ks.any fun p => decide (p.1 = k)) = kvs.any fun p => decide (keyOf p.1 = some k)
  | _, _, .nil => rfl
  | _, _, .cons h q => by
    rw [List.any_cons, List.any_cons, Dvk.any k q]
    simp [keyOf_keyG]
theorem Dvk.mapv {K : PySem.W.Frag} {H : Hp} {A : Addr → Prop} {v : V} {d : PyData} (k : GK) (h : Dv K H A v d) : ∀ {ks : List (GK × V)} {kvs : List (PyData × PyData)}, Dvk K H A ks kvs → Dvk K H A (ks.map fun p => if p.1 = k then (p.1, v) else p) (kvs.map fun p => if keyOf p.1 = some k then (p.1, d) else p)
  | _, _, .nil => .nil
  | _, _, .cons (k := k') h1 q => by
    rw [List.map_cons, List.map_cons]
    by_cases e : k' = k
    · rw [if_pos e, if_pos (by rw [keyOf_keyG, e])]
      exact .cons h (Dvk.mapv k h q)
    · rw [if_neg e, if_neg (by rw [keyOf_keyG]; exact fun z => e (Option.some.inj z))]
      exact .cons h1 (Dvk.mapv k h q)
theorem Dvk.snoc {K : PySem.W.Frag} {H : Hp} {A : Addr → Prop} {v : V} {d : PyData} (k : GK) (h : Dv K H A v d) : ∀ {ks : List (GK × V)} {kvs : List (PyData × PyData)}, Dvk K H A ks kvs → Dvk K H A (ks ++ [(k, v)]) (kvs ++ [(keyG k, d)])
  | _, _, .nil => .cons h .nil
  | _, _, .cons h1 q => .cons h1 (Dvk.snoc k h q)
theorem Dvk.put {K : PySem.W.Frag} {H : Hp} {A : Addr → Prop} {v : V} {d : PyData} {ks : List (GK × V)} {kvs : List (PyData × PyData)} (k : GK) (q : Dvk K H A ks kvs) (h : Dv K H A v d) : Dvk K H A (putK ks k v) (putD kvs k d) := by
  unfold putK putD
  rw [q.any k]
  split
  · exact q.mapv k h
  · exact q.snoc k h
theorem putD_length (kvs : List (PyData × PyData)) (k : GK) (d : PyData) : (putD kvs k d).length ≤ kvs.length + 1 := by
  unfold putD
  split
  · rw [List.length_map]; omega
  · rw [List.length_append]; exact Nat.le_refl _

/-! ### the comprehension in the heap: keys of one kind, after the library's for plain keys -/
section
variable {X : Cx} {kx vx tg iter : Expr} {ifs : List Expr} {scope : Scope} {own : List (Str × Nat)} {pos pos' : Pos} {wi : TI} {g : TG} {tt : TT} {tk tv : TE}
def tDcZ (wi : TI) (g : TG) (tt : TT) (tk tv : TE) (vs : List Nat) : TE := fun σ H Q => wi σ H fun J H1 => ∀ D, H1 D = none → ∃ W : Nat → Nat → Hp → Prop, (∃ m, W 0 m (upd H1 D (.dK []))) ∧
  ∀ i m H, W i m H → (J.stop i H ∧ Q (.ref D) H) ∨ (J.go i H ∧ ∃ Nx : Hp → Prop, (∀ H', Nx H' → ∃ m', m' < m ∧ W (i + 1) m' H') ∧
    ∀ x H', J.yld i H x H' → g x (wipe σ vs) H' fun σ2 H2 => wipe σ2 vs = wipe σ vs ∧ tt σ2 H2 fun b H3 => if b = true then tk σ2 H3 fun y H4 => tv σ2 H4 fun z H5 => ∃ H6, ZPut H5 D y z H6 ∧ Nx H6 else Nx H3)
theorem dcz_core {pins : List (Addr × Obj)} {s : Shared} {σ : L2.St} {H : Hp} {Q : VK} {use : Option (Value → Sem Unit)} {Qf : Value → Shared → Prop} (hu : X.A.units + 1 < cLine) (hc : X.calm = true) (hN : X.N.Nodup) (hi : PI X tg iter wi) (ok : BlkOk X.N X.env.scope scope own) (hg : ∀ s H C cl fp, PG (X.blk s H scope (compEnvC scope cl C X.env) fp) tg g)
    (ht : ∀ s H C cl fp, PTs (X.blk s H scope (compEnvC scope cl C X.env) fp) ifs tt) (hk : ∀ s H C cl fp, PE (X.blk s H scope (compEnvC scope cl C X.env) fp) kx tk) (he : ∀ s H C cl fp, PE (X.blk s H scope (compEnvC scope cl C X.env) fp) vx tv) (hs : ∀ x, foldedSetIterable iter X.env x = pure x)
    (I : Inv X pins σ H s) (h : tDcZ wi g tt tk tv (own.map (·.2)) σ H Q) (back : ∀ D C s' m H', Inv X pins σ H' s' → Q (.ref D) H' → s'.heap.Ns C m → FpOk X pins H' C → compPost (model X.prog X.w) X.A X.xe use Qf (.ref D) C (.ok .next) s') :
    wpAny (model X.prog X.w) X.A (comprehension (.DictComp kx vx [⟨tg, iter, ifs, 0⟩] scope pos) scope X.env pos' newDict false (eval iter X.env) use) Qf X.xe s := by
  have free : ∀ y ∈ scope.names, y.2 = .free → ∃ c, X.env.cells.lookup y.1 = some c := fun y hy e => (ok.free y hy e).elim (fun k => I.ok.has _ (.inl k)) fun k => I.ok.has _ (.inr k)
  refine wpAny_comprehension_free (use := use) rfl hs (closure_ok free) ok.kind (fun y hy e => by rw [ok.uniq y hy, e]) (thn (hi.run pins s σ H _ I h) fun xv s1 hx => thn hx fun itv s2 ⟨it, fp, tn, J, H2, eit, I2, T, st2, f2, q⟩ => ?_)
  subst eit
  refine wpAny_newObj_type (newEnv_comp ?_)
  generalize eD : s2.heap.objs.size = D
  obtain ⟨W, ⟨m0, w0⟩, turn⟩ := q D (I2.hok.fresh (Nat.le_of_eq eD))
  generalize e3 : ({ s2 with heap := s2.heap.push { cls := .type "dict", data := .dict #[] } } : Shared) = s3
  have h3 : s3.heap = s2.heap.push { cls := .type "dict", data := .dict #[] } := by rw [← e3]
  have I3 : Inv X pins σ (upd H2 D (.dK [])) s3 := by
    rw [← e3]
    exact I2.laid (t' := s2.toks) (fun b o e => Heap.get?_push_of_some _ e) (Nat.le_of_eq eD) (by rw [← eD]; exact dk_empty s2.heap I2.big)
  have f3 : ∀ b ∈ fp, FpOk X pins (upd H2 D (.dK [])) b ∧ b < s3.heap.objs.size := fun b hb => by
    obtain ⟨o, eo, _⟩ := T.obj _ _ st2 b hb
    have lt := Heap.lt_size eo
    exact ⟨⟨by rw [upd_ne (by rw [← eD]; exact Nat.ne_of_lt lt)]; exact (f2 b hb).1, (f2 b hb).2⟩, by rw [h3, Heap.size_push]; exact Nat.lt_succ_of_lt lt⟩
  have I4 := block_start I3 ok hN f3
  have st3 : tn 0 s3.heap := T.keep _ _ _ st2 fun b _ o e => by rw [h3]; exact Heap.get?_push_of_some _ e
  generalize eL : cellsFrom (s3.heap.objs.size + 1) scope.names (cloFrom X.env.cells scope.names []) = cl at I4
  have pg := hg s3 (upd H2 D (.dK [])) s3.heap.objs.size cl fp
  have pt := ht s3 (upd H2 D (.dK [])) s3.heap.objs.size cl fp
  have pk := hk s3 (upd H2 D (.dK [])) s3.heap.objs.size cl fp
  have pv := he s3 (upd H2 D (.dK [])) s3.heap.objs.size cl fp
  show codeAny _ _ (.compStart (.DictComp kx vx [⟨tg, iter, ifs, 0⟩] scope pos) 0 (.ref it) (.ref D) (compEnvC scope cl s3.heap.objs.size X.env)) (compPost (model X.prog X.w) X.A X.xe use Qf (.ref D) s3.heap.objs.size) { s3 with heap := pushCells (s3.heap.push { cls := .type "dict", data := .dict #[] }) scope.names }
  have nfp : ∀ b ∈ fp, (upd H2 D (.dK [])) b = none := fun b hb => (f3 b hb).1.1
  generalize ec : compEnvC scope cl s3.heap.objs.size X.env = ce at I4 pg pt pk pv ⊢
  have cL : ce.locals = s3.heap.objs.size := by subst ec; rfl
  generalize eH3 : upd H2 D (.dK []) = H3 at I3 I4 pg pt pk pv w0 nfp f3
  generalize e4 : ({ s3 with heap := pushCells (s3.heap.push { cls := .type "dict", data := .dict #[] }) scope.names } : Shared) = s4 at I4 ⊢
  have st4 : tn 0 s4.heap := T.keep _ _ _ st3 fun b _ o e => by rw [← e4]; exact pushCells_keeps _ _ _ _ (Heap.get?_push_of_some _ e)
  have still : ∀ {σ' : L2.St} {H' : Hp} {s' : Shared}, Inv (X.blk s3 H3 scope ce fp) [] σ' H' s' → (∀ b ∈ fp, H' b = none) → ∀ b ∈ fp, FpOk (X.blk s3 H3 scope ce fp) [] H' b := fun {σ' H' s'} I' hn b hb => ⟨hn b hb, (I'.ok.exf b hb).1, I'.ok.exfs b hb, .inl hb, fun x c e => (I'.ok.exf b hb).2 x c e, fun p hp => absurd (show p ∈ ([] : List (Addr × Obj)) ++ [] from hp) (by simp)⟩
  have loop : codeAny (model X.prog X.w) X.A (.compLoop (.DictComp kx vx [⟨tg, iter, ifs, 0⟩] scope pos) 0 (.ref it) (.ref D) ce) (compPost (model X.prog X.w) X.A X.xe use Qf (.ref D) s3.heap.objs.size) s4 := by
    refine compLoop_anyD (fun n s' => ∃ i H', Inv (X.blk s3 H3 scope ce fp) [] (wipe σ (own.map (·.2))) H' s' ∧ tn i s'.heap ∧ (∀ b ∈ fp, H' b = none) ∧ W i n H') ?_ m0 ⟨0, H3, I4, st4, nfp, w0⟩
    rintro n s5 ⟨i, H5, I5, st5, n5, w5⟩
    rcases turn i n H5 w5 with ⟨stop, done⟩ | ⟨go, Nx, hNx, step⟩
    · refine thnF (T.done (X.blk s3 H3 scope ce fp) rfl rfl rfl hc i [] s5 _ H5 (fun _ _ => False) I5 (still I5 n5) st5 stop) fun r s6 ⟨hr, I6⟩ => ?_
      subst hr
      have I7 : Inv X pins σ H5 s6 := I3.call' (ch := fp) I6.os I6.base I6.hok I6.bare fun b hb => let z := (f3 b hb).1.2; ⟨z.2.2.1, z.1, z.2.2.2.1, z.2.2.2.2⟩
      have nC : H5 s3.heap.objs.size = none := cL ▸ (show H5 ce.locals = none from I6.free)
      obtain ⟨m, hn, _⟩ := I6.loc
      exact back D s3.heap.objs.size s6 m H5 I7 done (cL ▸ (show s6.heap.Ns ce.locals m from hn)) (I3.fpOk (Nat.le_refl _) nC)
    · refine thnF (T.item (X.blk s3 H3 scope ce fp) rfl rfl rfl hc i [] s5 _ H5 (fun _ _ => False) I5 (still I5 n5) st5 go) fun r s6 ⟨u, hr, h6⟩ => ?_
      subst hr
      refine thnF h6 fun _ s7 ⟨x, H7, I7, r7, y7, st7, n7⟩ => thnF (pg.run _ s7 _ H7 x u _ (I7.pinned (still I7 n7) (T.obj _ _ st7)) r7 (step x H7 y7)) fun _ s8 ⟨σ8, H8, I8, hw8, q8⟩ => thnF (pt.run _ s8 σ8 H8 _ I8 q8) fun b s9 ⟨H9, I9, q9⟩ => ?_
      have fin : ∀ {s' : Shared} {H' : Hp}, Inv (X.blk s3 H3 scope ce fp) ([] ++ pinsAt fp s7.heap) σ8 H' s' → Nx H' → ∃ m, m < n ∧ ∃ i H', Inv (X.blk s3 H3 scope ce fp) [] (wipe σ (own.map (·.2))) H' s' ∧ tn i s'.heap ∧ (∀ b ∈ fp, H' b = none) ∧ W i m H' := fun {s' H'} I' nx => by
        obtain ⟨m', hm, w'⟩ := hNx H' nx
        have pin : ∀ b ∈ fp, ∀ o, s7.heap.get? b = some o → s'.heap.get? b = some o ∧ H' b = none := fun b hb o e => let z := I'.pin (b, o) (List.mem_append_right _ (List.mem_append_right _ (mem_pinsAt hb e))); ⟨z.1, z.2.1⟩
        refine ⟨m', hm, i + 1, H', (I'.unpinned (pins := [])).weak (by rw [← hw8, wipe_length]) (fun j v e => ?_), T.keep _ _ _ st7 fun b hb o e => (pin b hb o e).1, fun b hb => let ⟨o, e, _⟩ := T.obj _ _ st7 b hb; (pin b hb o e).2, w'⟩
        rw [← hw8] at e
        exact (wipe_some e).1
      cases b with
      | false => simp only [Bool.false_eq_true, if_false] at q9 ⊢; exact fin I9 q9
      | true =>
        simp only [if_true] at q9 ⊢
        exact thnF (pk.run _ s9 σ8 H9 _ I9 q9) fun z s10 ⟨yk, H10, I10, r10, q10⟩ => thnF (pv.run _ s10 σ8 H10 _ I10 q10) fun z2 s11 ⟨yv, H11, I11, r11, H12, zp, nx⟩ => z_dset (X := X.blk s3 H3 scope ce fp) hu I11 zp r10 r11 fun s12 I12 => fin I12 nx
  exact codeAny_compStart_dict loop (T.self X.A 0 _ _ _ st4 loop)
theorem pe_dcZ (hu : X.A.units + 1 < cLine) (hc : X.calm = true) (hN : X.N.Nodup) (hi : PI X tg iter wi) (ok : BlkOk X.N X.env.scope scope own) (hg : ∀ s H C cl fp, PG (X.blk s H scope (compEnvC scope cl C X.env) fp) tg g)
    (ht : ∀ s H C cl fp, PTs (X.blk s H scope (compEnvC scope cl C X.env) fp) ifs tt) (hk : ∀ s H C cl fp, PE (X.blk s H scope (compEnvC scope cl C X.env) fp) kx tk) (he : ∀ s H C cl fp, PE (X.blk s H scope (compEnvC scope cl C X.env) fp) vx tv)
    (hs : ∀ x, foldedSetIterable iter X.env x = pure x := by intro _; rfl) : PE X (.DictComp kx vx [⟨tg, iter, ifs, 0⟩] scope pos) (tDcZ wi g tt tk tv (own.map (·.2))) := by
  refine ⟨fun pins s σ H Q I h => ?_⟩
  rw [arm_eval_DictComp]
  refine dcz_core hu hc hN hi ok hg ht hk he hs I h fun D C s' m H' I' q hn f => ⟨m, hn, fun h'' sb => ?_⟩
  obtain ⟨f0, f1, f2, f3, f4, f5⟩ := f
  exact ⟨.ref D, H', I'.turned (t' := s'.toks) (fun b o hb e => (sb.2 b hb).trans e) f0 f1 f3 f4 f5, rfl, q⟩
end

/-! ### a dict made by a comprehension -/
def dcRun (f : Tg) (tt : Rd Bool) (tk tv : Rd PyData) (E : Evn) : List PyData → List (PyData × PyData) → Rng → Option (List (PyData × PyData) × Rng)
  | [], acc, G => some (acc, G)
  | d :: ds, acc, G => (f d E).bind fun E1 => (tt E1 G).bind fun r => match r with
    | (.error _, _) => none
    | (.ok b, G1) => if b = true then (tk E1 G1).bind fun r => (match r with
        | (.error _, _) => none
        | (.ok y, G2) => (tv E1 G2).bind fun r => (match r with
          | (.error _, _) => none
          | (.ok z, G3) => (keyOf y).bind fun k => if fitB acc k then dcRun f tt tk tv E ds (putD acc k z) G3 else none)) else dcRun f tt tk tv E ds acc G1
def mDc (it : Rd (List PyData)) (f : Tg) (tt : Rd Bool) (tk tv : Rd PyData) (vs : List Nat) : Rd PyData := it.bind fun ds E G => if ds.length ≤ 100000 then (dcRun f tt tk tv (wipeE E vs) ds [] G).map fun r => (.ok (.dict r.1), r.2) else none
theorem dcRun_cons {f : Tg} {tt : Rd Bool} {tk tv : Rd PyData} {E : Evn} {d : PyData} {ds : List PyData} {acc : List (PyData × PyData)} {G : Rng} {R : List (PyData × PyData) × Rng} (h : dcRun f tt tk tv E (d :: ds) acc G = some R) :
    ∃ E1 b G1, f d E = some E1 ∧ tt E1 G = some (.ok b, G1) ∧ ((b = false ∧ dcRun f tt tk tv E ds acc G1 = some R) ∨ ∃ y G2 z G3 k, b = true ∧ tk E1 G1 = some (.ok y, G2) ∧ tv E1 G2 = some (.ok z, G3) ∧ keyOf y = some k ∧ fitB acc k = true ∧ dcRun f tt tk tv E ds (putD acc k z) G3 = some R) := by
  obtain ⟨E1, e1, h⟩ := Option.bind_eq_some_iff.mp h
  obtain ⟨⟨r, G1⟩, e2, h⟩ := Option.bind_eq_some_iff.mp h
  cases r with
  | error x => cases h
  | ok b =>
    refine ⟨E1, b, G1, e1, e2, ?_⟩
    cases b with
    | false => exact .inl ⟨rfl, h⟩
    | true =>
      obtain ⟨⟨r, G2⟩, e3, h⟩ := Option.bind_eq_some_iff.mp h
      cases r with
      | error x => cases h
      | ok y =>
        obtain ⟨⟨r, G3⟩, e4, h⟩ := Option.bind_eq_some_iff.mp h
        cases r with
        | error x => cases h
        | ok z =>
          obtain ⟨k, e5, h⟩ := Option.bind_eq_some_iff.mp h
          split at h
          · rename_i e6
            exact .inr ⟨y, G2, z, G3, k, rfl, e3, e4, e5, e6, h⟩
          · cases h
structure DcSt (K : PySem.W.Frag) (B : Amb) (A : Addr → Prop) (D : Addr) (H1 : Hp) (G : Rng) (ys : List (PyData × PyData)) (H : Hp) : Prop where
  keep : ∀ a o, H1 a = some o → ¬ (efs B a ∨ a = D) → H a = some o
  trk : ∀ a, H1 a ≠ none → H a ≠ none
  tup : Tups H1 H
  jr : JR B G H
  lst : ∃ xs, HDct H D xs ∧ Dvk K H (fun a => A a ∨ a = D) xs ys
theorem DcSt.ext {K : PySem.W.Frag} {B : Amb} {A : Addr → Prop} {D : Addr} {H1 : Hp} {G G' : Rng} {ys : List (PyData × PyData)} {H H' : Hp} (L : DcSt K B A D H1 G ys H) (ef : ∀ a, efs B a → A a) (nD : ¬ efs B D) (e : Ext B H H') (j : JR B G' H') : DcSt K B A D H1 G' ys H' :=
  ⟨fun a o q n => e.keep a o (L.keep a o q n) fun z => n (.inl z), fun a q => e.trk a (L.trk a q), fun a ys q => e.tup a ys (L.tup a ys q), j, let ⟨xs, h1, h2⟩ := L.lst; ⟨xs, h1.step fun o q => e.keep D _ q nD, h2.ext e fun a z => .inl (ef a z)⟩⟩
theorem DcSt.put {K : PySem.W.Frag} {B : Amb} {A : Addr → Prop} {D : Addr} {H1 : Hp} {G : Rng} {ys zs : List (PyData × PyData)} {H : Hp} {xs : List (GK × V)} {o : HO} (L : DcSt K B A D H1 G ys H) (nD : ¬ efs B D) (hod : HOd o xs) (h : Dvk K H (fun a => A a ∨ a = D) xs zs) : DcSt K B A D H1 G zs (upd H D o) := by
  have k : ∀ a u, H a = some u → ¬ (A a ∨ a = D) → upd H D o a = some u ∧ ¬ (A a ∨ a = D) := fun a u q n => ⟨by rw [upd_ne fun z => n (.inr z)]; exact q, n⟩
  have ht : Tups H (upd H D o) := tups_upd fun ys e => by
    obtain ⟨zs, h1, _⟩ := L.lst
    exact h1.ne ys e
  refine ⟨fun a o q n => ?_, fun a q => ?_, fun a ys q => ht a ys (L.tup a ys q), ?_, xs, ⟨o, upd_same, hod⟩, h.step k ht⟩
  · rw [upd_ne fun z => n (.inr z)]
    exact L.keep a o q n
  · by_cases z : a = D
    · subst z; rw [upd_same]; simp
    · rw [upd_ne z]; exact L.trk a q
  · exact JR.upd L.jr nD
theorem DcSt.some {K : PySem.W.Frag} {B : Amb} {A : Addr → Prop} {D : Addr} {H1 : Hp} {G : Rng} {ys : List (PyData × PyData)} {H : Hp} (L : DcSt K B A D H1 G ys H) : H D ≠ none := by
  obtain ⟨xs, ⟨o, h, _⟩, _⟩ := L.lst
  rw [h]; simp
section
variable {X : Cx} {C : Cn} {pos : Pos} {kx vx tg iter : Expr} {ifs : List Expr} {scope : Scope} {own : List (Str × Nat)} {mi : Rd (List PyData)} {f : Tg} {mt : Rd Bool} {mk mv : Rd PyData} {ss : List Nat}
theorem dc_t {vs : List Nat} (hi : PIs X C .bor tg iter mi) (hss : ∀ i ∈ ss, i ∈ vs) : ∃ wi, PI X tg iter wi ∧ ∀ A E G σ H Q r G', Rel C.K C.B A E G σ H → mDc mi f mt mk mv vs E G = some (r, G') → PostF C A H r G' Q → tDcZ wi (gS C.nox f ss) (tS C.nox mt) (eS C.nox mk) (eS C.nox mv) vs σ H Q := by
  obtain ⟨wi, p1, q1⟩ := hi.ex
  refine ⟨wi, p1, fun A E G σ H Q r G' R hm p => ?_⟩
  rcases Rd.bind_cases hm with ⟨x, e1, h2⟩ | ⟨ds, G1, e1, hm⟩
  · subst h2; exact q1 A E G σ H _ _ _ R e1 p
  · split at hm
    case isFalse => cases hm
    rename_i hz
    obtain ⟨⟨full, G2⟩, e2, hm⟩ := Option.map_eq_some_iff.mp hm
    cases hm
    refine q1 A E G σ H _ _ _ R e1 fun J H1 x1 j1 fd D hD => ?_
    have R1 := R.ext x1 j1
    have nD : ¬ efs C.B D := nef j1 hD
    obtain ⟨I, hI, F⟩ := fd (fun a => efs C.B a ∨ a = D) (fun a z => z.imp id fun z => by rw [z]; exact hD)
    have U : Kept H1 (upd H1 D (.dK [])) := Kept.new hD
    refine ⟨fun i m H => m = ds.length - i ∧ i ≤ ds.length ∧ I H ∧ ∃ ys Gi, DcSt C.K C.B A D H1 Gi ys H ∧ ys.length ≤ i ∧ dcRun f mt mk mv (wipeE E vs) (ds.drop i) ys Gi = some (full, G2), ⟨_, rfl, Nat.zero_le _, F.stab _ _ hI (fun a o q _ => U a o q) (fun a ys q => U a _ q), [], G1, ?_, by simp, by simpa using e2⟩, ?_⟩
    · refine ⟨fun a o q n => U a o q, fun a q => ?_, fun a ys q => U a _ q, U.jr j1, [], ⟨_, upd_same, hod_nil⟩, .nil⟩
      obtain ⟨o, q⟩ := Option.ne_none_iff_exists'.mp q
      rw [U a o q]; simp
    · rintro i m H2 ⟨rfl, hi, hI2, ys, Gi, L, hy, e3⟩
      by_cases hlt : i < ds.length
      · refine .inr ⟨F.go i H2 hlt hI2, fun H' => i + 1 ≤ ds.length ∧ I H' ∧ ∃ ys Gi, DcSt C.K C.B A D H1 Gi ys H' ∧ ys.length ≤ i + 1 ∧ dcRun f mt mk mv (wipeE E vs) (ds.drop (i + 1)) ys Gi = some (full, G2), fun H' h' => ⟨ds.length - (i + 1), by omega, rfl, h'⟩, fun x H3 hy3 => ?_⟩
        have RD : Rel C.K C.B (fun a => A a ∨ a = D) E Gi σ H2 := rel_past L.keep L.trk L.tup L.jr L.some R1 hD
        obtain ⟨k3, d, hd, hvd⟩ := F.yld i H2 x H3 (fun a => A a ∨ a = D) hlt (fun a z => ⟨z.imp id .inr, RD.trk a z⟩) hI2 hy3
        have R3 := (RD.ext k3.ext (k3.jr RD.jr)).wipe vs
        have L3 := L.ext R.ef nD k3.ext (k3.jr RD.jr)
        have hI3 : I H3 := F.stab _ _ hI2 (fun a o q _ => k3 a o q) fun a ys q => k3 a _ q
        rw [List.drop_eq_getElem_cons hlt] at e3
        have hd' : ds[i] = d := by rw [List.getElem?_eq_getElem hlt] at hd; exact Option.some.inj hd
        rw [hd'] at e3
        obtain ⟨E1, b, G3, f1, f2, f3⟩ := dcRun_cons e3
        refine ⟨_, d, _, E1, Gi, R3, hvd, f1, fun σ4 R4 ag => ⟨(wipe_agree ag hss).trans wipe_twice, _, E1, Gi, .ok b, G3, R4, f2, fun H5 x5 j5 => ?_⟩⟩
        have L5 := L3.ext R.ef nD x5 j5
        have hI5 : I H5 := F.stab _ _ hI3 (fun a o q n => x5.keep a o q fun z => n (.inl z)) x5.tup
        rcases f3 with ⟨rfl, f3⟩ | ⟨y, G6, z, G8, k, rfl, f3, f4, f5, f7, f6⟩
        · simp only [Bool.false_eq_true, if_false]
          exact ⟨hlt, hI5, ys, G3, L5, by omega, f3⟩
        · simp only [if_true]
          have R5 := R4.ext x5 j5
          refine ⟨_, E1, G3, .ok y, G6, R5, f3, fun v H7 x7 j7 hv7 => ?_⟩
          have L7 := L5.ext R.ef nD x7 j7
          have hI7 : I H7 := F.stab _ _ hI5 (fun a o q n => x7.keep a o q fun z => n (.inl z)) x7.tup
          refine ⟨_, E1, G6, .ok z, G8, R5.ext x7 j7, f4, fun w H8 x8 j8 hv8 => ?_⟩
          have L8 := L7.ext R.ef nD x8 j8
          have hI8 : I H8 := F.stab _ _ hI7 (fun a o q n => x8.keep a o q fun z => n (.inl z)) x8.tup
          obtain ⟨xs, h1, h2⟩ := L8.lst
          have hl := h2.len
          have := putD_length ys k z
          obtain ⟨o, zp, hod⟩ := zput_of (y := v) (v := w) h1 ((hv7.key f5).keep x8.tup) (h2.fit f7) (by rw [hl]; have := @sz _ hz; omega)
          exact ⟨_, zp, hlt, F.stab _ _ hI8 (fun a o q n => by rw [upd_ne fun z => n (.inr z)]; exact q) (tups_upd h1.ne), putD ys k z, G8, L8.put nD hod (h2.put k hv8), by omega, f6⟩
      · have hi' : i = ds.length := by omega
        subst hi'
        refine .inl ⟨F.stop H2 hI2, ?_⟩
        rw [List.drop_length] at e3
        cases e3
        obtain ⟨xs, h1, h2⟩ := L.lst
        exact p D H2 (by
          cases h : H D with
          | none => rfl
          | some o => exact absurd hD (x1.trk D (by rw [h]; simp))) ⟨fun a o q n => L.keep a o (x1.keep a o q n) fun z => z.elim n fun z => by
            rw [z] at q; exact x1.trk D (by rw [q]; simp) hD, fun a q => L.trk a (x1.trk a q), fun a ys q => L.tup a ys (x1.tup a ys q)⟩ L.jr ⟨xs, h1, h2⟩
theorem pf_dc (own : List (Str × Nat)) (hu : X.A.units + 1 < cLine) (hc : X.calm = true) (hN : X.N.Nodup) (hi : PIs X C .bor tg iter mi) (ok : BlkOk X.N X.env.scope scope own)
    (hg : ∀ s H C0 cl fp, PGd (Blk X s H scope C0 cl fp) C.nox tg f ss) (ht : ∀ s H C0 cl fp, PTsd (Blk X s H scope C0 cl fp) C.nox ifs mt) (hk : ∀ s H C0 cl fp, PD (Blk X s H scope C0 cl fp) C.nox kx mk) (hv : ∀ s H C0 cl fp, PD (Blk X s H scope C0 cl fp) C.nox vx mv)
    (hss : ∀ i ∈ ss, i ∈ own.map (·.2)) (hs : ∀ x, foldedSetIterable iter X.env x = pure x := by intro _; rfl) : PF X C (.DictComp kx vx [⟨tg, iter, ifs, 0⟩] scope pos) (mDc mi f mt mk mv (own.map (·.2))) := by
  obtain ⟨wi, p1, q1⟩ := dc_t (mk := mk) (mv := mv) (mt := mt) (f := f) hi hss
  exact ⟨_, pe_dcZ hu hc hN p1 ok (fun s H C0 cl fp => (hg s H C0 cl fp).star) (fun s H C0 cl fp => (ht s H C0 cl fp).star) (fun s H C0 cl fp => (hk s H C0 cl fp).star) (fun s H C0 cl fp => (hv s H C0 cl fp).star) hs, q1⟩
end
end Zd

set_option maxRecDepth 100000
set_option maxHeartbeats 4000000
namespace Zd
open PySem L2
open PyProof.Rows hiding St

/-! ### the slots with their owners -/
abbrev Om := Nat → Option Addr
def AO (A0 : Addr → Prop) (O : Om) : Addr → Prop := fun a => A0 a ∨ ∃ i, O i = some a
structure RelT (K : PySem.W.Frag) (B : Amb) (A0 : Addr → Prop) (O : Om) (E : Evn) (G : Rng) (σ : L2.St) (H : Hp) : Prop where
  rel : Rel K B (AO A0 O) E G σ H
  out : ∀ i p, O i = some p → ¬ A0 p
  inj : ∀ i j p, O i = some p → O j = some p → i = j
  own : ∀ i x, E[i]? = some (some (.own x)) → ∃ p, O i = some p ∧ σ[i]? = some (some (.ref p))
  ef0 : ∀ a, efs B a → A0 a
  lkd : ∀ (i : Nat) (f : Bool) (x : PyData) (p : Addr), E[i]? = some (some (.lk f x)) → σ[i]? = some (some (.ref p)) → A0 p
structure StepR (B : Amb) (O : Om) (H H' : Hp) : Prop where
  keep : ∀ a o, H a = some o → ¬ efs B a → (∀ i, O i ≠ some a) → H' a = some o
  trk : ∀ a, H a ≠ none → H' a ≠ none
  tup : Tups H H'
structure StepT (B : Amb) (O : Om) (H : Hp) (O' : Om) (H' : Hp) : Prop extends StepR B O H H' where
  new : ∀ i p, O' i = some p → (∃ j, O j = some p) ∨ H p = none
theorem StepR.of {B : Amb} {O : Om} {H H' : Hp} (e : Ext B H H') : StepR B O H H' := ⟨fun a o h n _ => e.keep a o h n, e.trk, e.tup⟩
theorem StepT.of {B : Amb} {O : Om} {H H' : Hp} (e : Ext B H H') : StepT B O H O H' := ⟨StepR.of e, fun i p h => .inl ⟨i, h⟩⟩
theorem StepT.refl (B : Amb) (O : Om) (H : Hp) : StepT B O H O H := .of (Ext.refl B H)
theorem StepT.thenR {B : Amb} {O O1 : Om} {H H1 H2 : Hp} (a : StepT B O H O1 H1) (b : StepR B O1 H1 H2) : StepR B O H H2 :=
  ⟨fun x o h n m => b.keep x o (a.keep x o h n m) n fun i z => (a.new i x z).elim (fun ⟨j, w⟩ => m j w) (fun w => by rw [w] at h; cases h), fun x h => b.trk x (a.trk x h), fun x xs h => b.tup x xs (a.tup x xs h)⟩
theorem StepT.trans {B : Amb} {O O1 O2 : Om} {H H1 H2 : Hp} (a : StepT B O H O1 H1) (b : StepT B O1 H1 O2 H2) : StepT B O H O2 H2 :=
  ⟨a.thenR b.toStepR, fun i p h => (b.new i p h).elim (fun ⟨j, w⟩ => a.new j p w) fun w => .inr (by
    cases q : H p with
    | none => rfl
    | some o => exact absurd w (a.trk p (by rw [q]; simp)))⟩
theorem StepR.ext {B : Amb} {H H' : Hp} (s : StepR B (fun _ => none) H H') : Ext B H H' := ⟨fun a o h n => s.keep a o h n (fun i z => by cases z), s.trk, s.tup⟩
theorem RelT.ext {K : PySem.W.Frag} {B : Amb} {A0 : Addr → Prop} {O : Om} {E : Evn} {G G' : Rng} {σ : L2.St} {H H' : Hp} (R : RelT K B A0 O E G σ H) (e : Ext B H H') (j : JR B G' H') : RelT K B A0 O E G' σ H' := ⟨R.rel.ext e j, R.out, R.inj, R.own, R.ef0, R.lkd⟩

/-! ### what is wanted behind a statement -/
inductive Out where
  | nx (E : Evn)
  | bk (E : Evn)
  | ct (E : Evn)
  /-- data is returned -/
  | ret (d : PyData)
  /-- a list or dict that is the caller's own now -/
  | retF (d : PyData)
  | err (x : Exn)
abbrev Sd := Evn → Rng → Option (Out × Rng)
def PostS (C : Cn) (A0 : Addr → Prop) (O : Om) (H : Hp) (o : Out) (G' : Rng) (D : Ends) : Prop :=
  match o with
  | .nx E' => ∀ O' σ' H', RelT C.K C.B A0 O' E' G' σ' H' → StepT C.B O H O' H' → D.nx σ' H'
  | .bk E' => ∀ O' σ' H', RelT C.K C.B A0 O' E' G' σ' H' → StepT C.B O H O' H' → D.bk σ' H'
  | .ct E' => ∀ O' σ' H', RelT C.K C.B A0 O' E' G' σ' H' → StepT C.B O H O' H' → D.ct σ' H'
  | .ret d => ∀ v H', StepR C.B O H H' → JR C.B G' H' → Dv C.K H' A0 v d → D.rt v H'
  | .retF d => ∀ p H', StepR C.B O H H' → JR C.B G' H' → ((∃ i, O i = some p) ∨ H p = none) → OwnAt C.K H' (fun a => A0 a ∨ a = p) p d → D.rt (.ref p) H'
  | .err x => ∀ cls dx H2, StepR C.B O H H2 → JR C.B G' H2 → ExnAt C.K C.mg H2 A0 cls dx x → C.EX cls dx H2
theorem ExnAt.anti {K : PySem.W.Frag} {mg : Str → Option Value} {H : Hp} {A A' : Addr → Prop} {cls : Value} {dx : Option Addr} {x : Exn} (h : ∀ a, A' a → A a) (q : ExnAt K mg H A cls dx x) : ExnAt K mg H A' cls dx x := by
  obtain ⟨q1, q2⟩ := q
  refine ⟨q1, ?_⟩
  revert q2
  cases x.fld with
  | none => exact id
  | some fs => exact fun ⟨a, vs, h1, h2, h3, h4, h5⟩ => ⟨a, vs, h1, h2, fun z => h3 (h a z), h4, h5.step (fun a o q n => ⟨q, fun z => n (h a z)⟩) fun _ _ q => q⟩
theorem PostS.perr {C : Cn} {A0 : Addr → Prop} {O : Om} {H : Hp} {x : Exn} {G' : Rng} {D : Ends} (p : PostS C A0 O H (.err x) G' D) : PErr C (AO A0 O) H x G' :=
  fun cls dx H2 e j q => p cls dx H2 (StepR.of e) j (q.anti fun a z => .inl z)
/-- behind a first step -/
theorem PostS.past {C : Cn} {A0 : Addr → Prop} {O O1 : Om} {H H1 : Hp} {o : Out} {G' : Rng} {D : Ends} (s : StepT C.B O H O1 H1) (p : PostS C A0 O H o G' D) : PostS C A0 O1 H1 o G' D := by
  cases o with
  | nx E' => exact fun O' σ' H' R t => p O' σ' H' R (s.trans t)
  | bk E' => exact fun O' σ' H' R t => p O' σ' H' R (s.trans t)
  | ct E' => exact fun O' σ' H' R t => p O' σ' H' R (s.trans t)
  | ret d => exact fun v H' t j q => p v H' (s.thenR t) j q
  | retF d => exact fun v H' t j n q => p v H' (s.thenR t) j (by
      rcases n with ⟨i, n⟩ | n
      · exact s.new i v n
      · refine .inr ?_
        cases q : H v with
        | none => rfl
        | some o => exact absurd n (s.trk v (by rw [q]; simp))) q
  | err x => exact fun cls dx H2 t j q => p cls dx H2 (s.thenR t) j q
/-- other ends -/
theorem PostS.ends {C : Cn} {A0 : Addr → Prop} {O : Om} {H : Hp} {o : Out} {G' : Rng} {D D' : Ends} (p : PostS C A0 O H o G' D) (h1 : ∀ E' , o = .nx E' → PostS C A0 O H o G' D → PostS C A0 O H o G' D') (h2 : ∀ E' , o = .bk E' → PostS C A0 O H o G' D → PostS C A0 O H o G' D') (h3 : ∀ E' , o = .ct E' → PostS C A0 O H o G' D → PostS C A0 O H o G' D') (h4 : D'.rt = D.rt) : PostS C A0 O H o G' D' := by
  cases o with
  | nx E' => exact h1 E' rfl p
  | bk E' => exact h2 E' rfl p
  | ct E' => exact h3 E' rfl p
  | ret d => exact fun v H' t j q => by rw [h4]; exact p v H' t j q
  | retF d => exact fun v H' t j n q => by rw [h4]; exact p v H' t j n q
  | err x => exact p

structure PSd (X : Cx) (C : Cn) (st : Stmt) (m : Sd) : Prop where
  ex : ∃ t, PS X st t ∧ ∀ A0 O E G σ H D o G', RelT C.K C.B A0 O E G σ H → m E G = some (o, G') → PostS C A0 O H o G' D → t D σ H
structure PSsd (X : Cx) (C : Cn) (sts : List Stmt) (m : Sd) : Prop where
  ex : ∃ t, PSs X sts t ∧ ∀ A0 O E G σ H D o G', RelT C.K C.B A0 O E G σ H → m E G = some (o, G') → PostS C A0 O H o G' D → t D σ H
/-- an expression's reading, then a statement's end -/
def rdS {α : Type} (m : Rd α) (f : α → Sd) : Sd := fun E G => match m E G with
  | none => none
  | some (.error x, G1) => some (.err x, G1)
  | some (.ok a, G1) => f a E G1
theorem rdS_cases {α : Type} {m : Rd α} {f : α → Sd} {E : Evn} {G G' : Rng} {o : Out} (h : rdS m f E G = some (o, G')) :
    (∃ x, m E G = some (.error x, G') ∧ o = .err x) ∨ ∃ a G1, m E G = some (.ok a, G1) ∧ f a E G1 = some (o, G') := by
  unfold rdS at h
  split at h
  · cases h
  · rename_i x G1 e; cases h; exact .inl ⟨x, e, rfl⟩
  · rename_i a G1 e; exact .inr ⟨a, G1, e, h⟩
def sNx : Sd := fun E G => some (.nx E, G)
def sSeq (a b : Sd) : Sd := fun E G => match a E G with
  | some (.nx E1, G1) => b E1 G1
  | r => r
def sIf (c : Rd Bool) (a b : Sd) : Sd := rdS c fun k => if k = true then a else b
def sRet (m : Rd PyData) : Sd := rdS m fun d _ G => some (.ret d, G)
def sRetF (m : Rd PyData) : Sd := rdS m fun d _ G => some (.retF d, G)
def sDrop (m : Rd PyData) : Sd := rdS m fun _ E G => some (.nx E, G)
def sBk : Sd := fun E G => some (.bk E, G)
def sCt : Sd := fun E G => some (.ct E, G)
def sAsg (f : Tg) (m : Rd PyData) : Sd := rdS m fun d E G => (f d E).map fun E1 => (.nx E1, G)
section
variable {X : Cx} {C : Cn} {pos : Pos} {st : Stmt} {rest : List Stmt} {a b : Sd} {e : Expr} {m : Rd PyData}
theorem pssd_nil : PSsd X C [] sNx := ⟨_, pss_nil, fun A0 O E G σ H D o G' R hm p => by
  cases hm
  exact p O σ H R (StepT.refl _ _ _)⟩
theorem pssd_cons (h1 : PSd X C st a) (h2 : PSsd X C rest b) : PSsd X C (st :: rest) (sSeq a b) := by
  obtain ⟨t, p1, q1⟩ := h1.ex
  obtain ⟨u, p2, q2⟩ := h2.ex
  refine ⟨_, pss_cons p1 p2, fun A0 O E G σ H D o G' R hm p => ?_⟩
  unfold sSeq at hm
  split at hm
  · rename_i E1 G1 e
    exact q1 A0 O E G σ H _ _ _ R e fun O' σ' H' R' s => q2 A0 O' E1 G1 σ' H' D o G' R' hm (p.past s)
  · rename_i hn
    refine q1 A0 O E G σ H _ _ _ R hm (p.ends (fun E' z _ => ?_) (fun _ z p => by subst z; exact p) (fun _ z p => by subst z; exact p) rfl)
    subst z
    exact (hn _ _ hm).elim
theorem pssd_one (h1 : PSd X C st a) : PSsd X C [st] a := by
  obtain ⟨t, p1, q1⟩ := h1.ex
  exact ⟨t, pss_one p1, q1⟩
theorem psd_pass : PSd X C (.Pass pos) sNx := ⟨_, ps_pass, fun A0 O E G σ H D o G' R hm p => by
  cases hm
  exact p O σ H R (StepT.refl _ _ _)⟩
theorem psd_bk : PSd X C (.Break pos) sBk := ⟨_, ps_break, fun A0 O E G σ H D o G' R hm p => by
  cases hm
  exact p O σ H R (StepT.refl _ _ _)⟩
theorem psd_ct : PSd X C (.Continue pos) sCt := ⟨_, ps_continue, fun A0 O E G σ H D o G' R hm p => by
  cases hm
  exact p O σ H R (StepT.refl _ _ _)⟩
theorem psd_if {c : Expr} {x y : List Stmt} {k : Rd Bool} (hc : PTs' X C c k) (ha : PSsd X C x a) (hb : PSsd X C y b) : PSd X C (.If c x y pos) (sIf k a b) := by
  obtain ⟨t, p1, q1⟩ := hc.ex
  obtain ⟨u, p2, q2⟩ := ha.ex
  obtain ⟨w, p3, q3⟩ := hb.ex
  refine ⟨_, ps_if p1 p2 p3, fun A0 O E G σ H D o G' R hm p => ?_⟩
  rcases rdS_cases hm with ⟨x, h1, rfl⟩ | ⟨v, G1, h1, h2⟩
  · exact q1 _ E G σ H _ _ _ R.rel h1 p.perr
  · refine q1 _ E G σ H _ _ _ R.rel h1 fun H1 e1 j1 => ?_
    cases v with
    | true => exact q2 A0 O E G1 σ H1 D o G' (R.ext e1 j1) h2 (p.past (.of e1))
    | false => exact q3 A0 O E G1 σ H1 D o G' (R.ext e1 j1) h2 (p.past (.of e1))
theorem psd_ret (h : PD X C e m) : PSd X C (.Return (some e) pos) (sRet m) := by
  obtain ⟨t, p1, q1⟩ := h.ex
  refine ⟨_, ps_ret p1, fun A0 O E G σ H D o G' R hm p => ?_⟩
  rcases rdS_cases hm with ⟨x, h1, rfl⟩ | ⟨v, G1, h1, h2⟩
  · exact q1 _ E G σ H _ _ _ R.rel h1 p.perr
  · cases h2
    exact q1 _ E G σ H _ _ _ R.rel h1 fun w H1 e1 j1 dv => p w H1 (.of e1) j1 (dv.anti fun a z => .inl z)
theorem psd_retF (h : PF X C e m) : PSd X C (.Return (some e) pos) (sRetF m) := by
  obtain ⟨t, p1, q1⟩ := h.ex
  refine ⟨_, ps_ret p1, fun A0 O E G σ H D o G' R hm p => ?_⟩
  rcases rdS_cases hm with ⟨x, h1, rfl⟩ | ⟨v, G1, h1, h2⟩
  · exact q1 _ E G σ H _ _ _ R.rel h1 p.perr
  · cases h2
    refine q1 _ E G σ H _ _ _ R.rel h1 fun w H1 n e1 j1 dv => p w H1 (.of e1) j1 (.inr n) ?_
    exact dv.step (fun _ q => q) (fun a o q n => ⟨q, fun z => n (z.imp .inl id)⟩) fun _ _ q => q
theorem psd_retN : PSd X C (.Return none pos) (sRet (Rd.ok .none)) := ⟨_, ps_retN, fun A0 O E G σ H D o G' R hm p => by
  cases hm
  exact p .non H (.of (Ext.refl _ _)) R.rel.jr .non⟩
theorem psd_drop (h : PB X C e m) (hs : swapsWith e none pos.line X.env = pure false := by rfl) : PSd X C (.Expr e pos) (sDrop m) := by
  obtain ⟨t, p1, q1⟩ := h.ex
  refine ⟨_, ps_expr p1 hs, fun A0 O E G σ H D o G' R hm p => ?_⟩
  rcases rdS_cases hm with ⟨x, h1, rfl⟩ | ⟨v, G1, h1, h2⟩
  · exact q1 _ E G σ H _ _ _ R.rel h1 p.perr
  · cases h2
    exact q1 _ E G σ H _ _ _ R.rel h1 fun w H1 e1 j1 dv => p O σ H1 (R.ext e1 j1) (.of e1)
/-- slots that are set with data: the owners stay -/
theorem RelT.sets {K : PySem.W.Frag} {B : Amb} {A0 : Addr → Prop} {O : Om} {E E' : Evn} {G : Rng} {σ σ' : L2.St} {H : Hp} {ss : List Nat} (R : RelT K B A0 O E G σ H) (R' : Rel K B (AO A0 O) E' G σ' H) (k : TgOk ss E E') (g : Agree ss σ σ') : RelT K B A0 O E' G σ' H := by
  refine ⟨R', R.out, R.inj, fun i x h => ?_, R.ef0, fun i f x p h h' => by
    by_cases hi : i ∈ ss
    · obtain ⟨y, z⟩ := k.2.2 i hi _ h
      cases z
    · rw [k.2.1 i hi] at h
      rw [g.2 i hi] at h'
      exact R.lkd i f x p h h'⟩
  by_cases hi : i ∈ ss
  · obtain ⟨y, z⟩ := k.2.2 i hi _ h
    cases z
  · rw [k.2.1 i hi] at h
    obtain ⟨p, h1, h2⟩ := R.own i x h
    exact ⟨p, h1, by rw [g.2 i hi]; exact h2⟩
theorem psd_asg {tg : Expr} {f : Tg} {ss : List Nat} (hg : PGd X C tg f ss) (h : PD X C e m) (hs : swapsWithSole [tg] e pos.line X.env = pure false := by rfl) (hw : swappedStores [tg] e X.env = pure none := by rfl)
    (ha : (assignEach [tg] X.env).map (·.2) = [assign tg X.env] := by rfl) : PSd X C (.Assign [tg] e pos) (sAsg f m) := by
  obtain ⟨t, p1, q1⟩ := h.ex
  obtain ⟨ok, g, p2, q2⟩ := hg
  refine ⟨_, ps_asg p1 p2 hs hw ha, fun A0 O E G σ H D o G' R hm p => ?_⟩
  rcases rdS_cases hm with ⟨x, h1, rfl⟩ | ⟨v, G1, h1, h2⟩
  · exact q1 _ E G σ H _ _ _ R.rel h1 p.perr
  · obtain ⟨E1, h3, h4⟩ := Option.map_eq_some_iff.mp h2
    cases h4
    refine q1 _ E G σ H _ _ _ R.rel h1 fun w H1 e1 j1 dv => ?_
    have R1 := R.ext e1 j1
    exact q2 _ w v E E1 _ σ H1 _ R1.rel dv h3 fun σ' R' ag => p O σ' H1 (R1.sets R' (ok _ _ _ h3) ag) (.of e1)
end
end Zd

set_option maxRecDepth 100000
set_option maxHeartbeats 4000000
namespace Zd
open PySem L2
open PyProof.Rows hiding St

/-! ### a value: data, or a new object -/
def PostV (C : Cn) (A : Addr → Prop) (H : Hp) (r : Except Exn EV) (G' : Rng) (Q : VK) : Prop :=
  match r with
  | .ok (.d d) => ∀ v H', Ext C.B H H' → JR C.B G' H' → Dv C.K H' A v d → Q v H'
  | .ok (.own d) => ∀ p H', H p = none → Ext C.B H H' → JR C.B G' H' → OwnAt C.K H' (fun a => A a ∨ a = p) p d → Q (.ref p) H'
  | .ok _ => True
  | .error x => PErr C A H x G'
def noEV : EV → Bool
  | .d _ => false
  | .own _ => false
  | _ => true
structure PV (X : Cx) (C : Cn) (e : Expr) (m : Rd EV) : Prop where
  ex : ∃ te, PE X e te ∧ ∀ A E G σ H Q r G', Rel C.K C.B A E G σ H → m E G = some (r, G') → PostV C A H r G' Q → te σ H Q
  no : ∀ E G ev G', m E G = some (.ok ev, G') → noEV ev = false
def vD (m : Rd PyData) : Rd EV := m.bind fun d => Rd.ok (.d d)
def vF (m : Rd PyData) : Rd EV := m.bind fun d => Rd.ok (.own d)
section
variable {X : Cx} {C : Cn} {pos : Pos} {e : Expr} {m : Rd PyData}
theorem PV.D (h : PD X C e m) : PV X C e (vD m) := by
  obtain ⟨te, p, q⟩ := h.ex
  refine ⟨⟨te, p, fun A E G σ H Q r G' R hm k => ?_⟩, fun E G ev G' hm => ?_⟩
  · rcases Rd.bind_cases hm with ⟨x, h1, h2⟩ | ⟨d, G1, h1, h2⟩
    · subst h2; exact q A E G σ H _ _ _ R h1 k
    · cases h2; exact q A E G σ H _ _ _ R h1 k
  · rcases Rd.bind_cases hm with ⟨x, h1, h2⟩ | ⟨d, G1, h1, h2⟩
    · cases h2
    · cases h2; rfl
theorem PV.F (h : PF X C e m) : PV X C e (vF m) := by
  obtain ⟨te, p, q⟩ := h.ex
  refine ⟨⟨te, p, fun A E G σ H Q r G' R hm k => ?_⟩, fun E G ev G' hm => ?_⟩
  · rcases Rd.bind_cases hm with ⟨x, h1, h2⟩ | ⟨d, G1, h1, h2⟩
    · subst h2; exact q A E G σ H _ _ _ R h1 k
    · cases h2; exact q A E G σ H _ _ _ R h1 k
  · rcases Rd.bind_cases hm with ⟨x, h1, h2⟩ | ⟨d, G1, h1, h2⟩
    · cases h2
    · cases h2; rfl
theorem OwnAt.some {K : PySem.W.Frag} {H : Hp} {A : Addr → Prop} {p : Addr} {d : PyData} (h : OwnAt K H A p d) : H p ≠ none := by
  obtain ⟨o, e⟩ := h.sm
  rw [e]; simp
theorem OwnAt.anti {K : PySem.W.Frag} {H : Hp} {A A' : Addr → Prop} {p : Addr} {d : PyData} (h : ∀ a, A' a → A a) (q : OwnAt K H A p d) : OwnAt K H A' p d := q.step (fun _ q => q) (fun a o q n => ⟨q, fun z => n (h a z)⟩) fun _ _ q => q
def Om.put (O : Om) (i : Nat) (p : Addr) : Om := fun j => if j = i then some p else O j
/-- a slot is set with data -/
theorem RelT.setD {K : PySem.W.Frag} {B : Amb} {A0 : Addr → Prop} {O : Om} {E : Evn} {G : Rng} {σ : L2.St} {H : Hp} {v : V} {d : PyData} (R : RelT K B A0 O E G σ H) (i : Nat) (h : Dv K H (AO A0 O) v d) : RelT K B A0 O (E.set i (some (.d d))) G (σ.set i (some v)) H := by
  refine ⟨R.rel.set h, R.out, R.inj, fun j x q => ?_, R.ef0, fun j f x p q q' => by
    by_cases hj : i = j
    · subst hj
      by_cases hi : i < E.length
      · rw [List.getElem?_set_self hi] at q; cases q
      · rw [List.getElem?_eq_none (by simpa using hi)] at q; cases q
    · rw [List.getElem?_set_ne hj] at q q'
      exact R.lkd j f x p q q'⟩
  by_cases hj : i = j
  · subst hj
    by_cases hi : i < E.length
    · rw [List.getElem?_set_self hi] at q; cases q
    · rw [List.getElem?_eq_none (by simpa using hi)] at q; cases q
  · rw [List.getElem?_set_ne hj] at q ⊢
    exact R.own j x q
/-- a slot is set with a new object -/
theorem RelT.setF {K : PySem.W.Frag} {B : Amb} {A0 : Addr → Prop} {O : Om} {E : Evn} {G G' : Rng} {σ : L2.St} {H H1 : Hp} {p : Addr} {d : PyData} (R : RelT K B A0 O E G σ H) (i : Nat) (n : H p = none) (e : Ext B H H1) (j : JR B G' H1) (h : OwnAt K H1 (fun a => AO A0 O a ∨ a = p) p d) :
    RelT K B A0 (O.put i p) (E.set i (some (.own d))) G' (σ.set i (some (.ref p))) H1 ∧ StepT B O H (O.put i p) H1 := by
  have sub : ∀ a, AO A0 (O.put i p) a → AO A0 O a ∨ a = p := fun a z => by
    rcases z with z | ⟨k, z⟩
    · exact .inl (.inl z)
    · unfold Om.put at z
      split at z
      · cases z; exact .inr rfl
      · exact .inl (.inr ⟨k, z⟩)
  have ef : ∀ a, efs B a → AO A0 (O.put i p) a := fun a z => .inl (R.ef0 a z)
  have nA : ¬ AO A0 O p := fun z => R.rel.trk p z n
  refine ⟨⟨⟨fun k ev q => ?_, j, fun a z => ?_, ef, by simp [R.rel.len]⟩, fun k q hk => ?_, fun k l q hk hl => ?_, fun k x q => ?_, R.ef0, fun j f x p q q' => by
    by_cases hj : i = j
    · subst hj
      by_cases hi : i < E.length
      · rw [List.getElem?_set_self hi] at q; cases q
      · rw [List.getElem?_eq_none (by simpa using hi)] at q; cases q
    · rw [List.getElem?_set_ne hj] at q q'
      exact R.lkd j f x p q q'⟩, ⟨StepR.of e, fun k q hk => ?_⟩⟩
  · by_cases hk : i = k
    · subst hk
      by_cases hi : i < E.length
      · rw [List.getElem?_set_self hi] at q; cases q
        exact ⟨_, by rw [List.getElem?_set_self (by rw [← R.rel.len]; exact hi)], p, rfl, fun z => nA (.inl (R.ef0 p z)), h.anti sub⟩
      · rw [List.getElem?_eq_none (by simpa using hi)] at q; cases q
    · rw [List.getElem?_set_ne hk] at q ⊢
      obtain ⟨v, h1, h2⟩ := R.rel.slot k ev q
      exact ⟨v, h1, (h2.wide fun a z => (sub a z).imp id fun z => by rw [z]; exact n).ext e ef⟩
  · rcases sub a z with z | z
    · exact e.trk a (R.rel.trk a z)
    · rw [z]; exact h.some
  · unfold Om.put at hk
    split at hk
    · cases hk; exact fun z => nA (.inl z)
    · exact R.out k q hk
  · unfold Om.put at hk hl
    split at hk
    · cases hk
      split at hl
      · rename_i a b; rw [a, b]
      · exact (nA (.inr ⟨l, hl⟩)).elim
    · split at hl
      · cases hl; exact (nA (.inr ⟨k, hk⟩)).elim
      · exact R.inj k l q hk hl
  · by_cases hk : i = k
    · subst hk
      by_cases hi : i < E.length
      · exact ⟨p, by simp [Om.put], by rw [List.getElem?_set_self (by rw [← R.rel.len]; exact hi)]⟩
      · rw [List.getElem?_eq_none (by simpa using hi)] at q; cases q
    · rw [List.getElem?_set_ne hk] at q ⊢
      obtain ⟨a, h1, h2⟩ := R.own k x q
      exact ⟨a, by unfold Om.put; rw [if_neg fun z => hk z.symm]; exact h1, h2⟩
  · unfold Om.put at hk
    split at hk
    · cases hk; exact .inr n
    · exact .inl ⟨k, hk⟩
def sSet (i : Nat) (m : Rd EV) : Sd := rdS m fun ev E G => some (.nx (E.set i (some ev)), G)
theorem set_t {i : Nat} {te : TE} {m : Rd EV} (q1 : ∀ A E G σ H Q r G', Rel C.K C.B A E G σ H → m E G = some (r, G') → PostV C A H r G' Q → te σ H Q) (no : ∀ E G ev G', m E G = some (.ok ev, G') → noEV ev = false)
    (A0 : Addr → Prop) (O : Om) (E : Evn) (G : Rng) (σ : L2.St) (H : Hp) (D : Ends) (o : Out) (G' : Rng) (R : RelT C.K C.B A0 O E G σ H) (hm : sSet i m E G = some (o, G')) (p : PostS C A0 O H o G' D) : tAsg te (gName i) D σ H := by
  rcases rdS_cases hm with ⟨x, h1, rfl⟩ | ⟨ev, G1, h1, h2⟩
  · exact q1 _ E G σ H _ _ _ R.rel h1 p.perr
  · cases h2
    refine q1 _ E G σ H _ _ _ R.rel h1 ?_
    have n := no _ _ _ _ h1
    cases ev with
    | d d => exact fun v H1 e j b => p O _ H1 ((R.ext e j).setD i b) (.of e)
    | own d => exact fun a H1 n e j b => let ⟨r, s⟩ := R.setF i n e j b; p _ _ H1 r s
    | lk _ _ => cases n
    | st => cases n
    | scr _ => cases n
theorem psd_set (i : Nat) {x : Str} {pos' : Pos} {m : Rd EV} (hN : X.N.Nodup) (h : PV X C e m) (hi : X.N[i]? = some x := by rfl) (hx : Loc X.env.scope x := by first | exact Or.inl rfl | exact Or.inr rfl)
    (hs : swapsWith e (some (.Name x pos')) pos.line X.env = pure false := by rfl) (hf : X.fn x = true ∨ X.env.scope.names.lookup x = some .local := by first | exact .inl rfl | exact .inr rfl | assumption) : PSd X C (.Assign [.Name x pos'] e pos) (sSet i m) := by
  obtain ⟨te, p1, q1⟩ := h.ex
  exact ⟨_, ps_set hN hi hx p1 hs hf, set_t q1 h.no⟩
section
variable {elt kx vx tg iter : Expr} {ifs : List Expr} {scope : Scope} {mi : Rd (List PyData)} {f : Tg} {mt : Rd Bool} {me mk mv : Rd PyData} {ss : List Nat} {spos py : Pos} {y : Str}
theorem postF_V {A : Addr → Prop} {H : Hp} {te : TE} {m : Rd PyData} (q : ∀ A E G σ H Q r G', Rel C.K C.B A E G σ H → m E G = some (r, G') → PostF C A H r G' Q → te σ H Q) : ∀ A E G σ H Q r G', Rel C.K C.B A E G σ H → vF m E G = some (r, G') → PostV C A H r G' Q → te σ H Q := fun A E G σ H Q r G' R hm k => by
  rcases Rd.bind_cases hm with ⟨x, h1, h2⟩ | ⟨d, G1, h1, h2⟩
  · subst h2; exact q A E G σ H _ _ _ R h1 k
  · cases h2; exact q A E G σ H _ _ _ R h1 k
theorem vF_no {m : Rd PyData} : ∀ E G ev G', vF m E G = some (.ok ev, G') → noEV ev = false := fun E G ev G' hm => by
  rcases Rd.bind_cases hm with ⟨x, h1, h2⟩ | ⟨d, G1, h1, h2⟩
  · cases h2
  · cases h2; rfl
/-- name = [..] on one line -/
theorem psd_setLc (i : Nat) (own : List (Str × Nat)) (hc : X.calm = true) (hN : X.N.Nodup) (hi : PIs X C .bor tg iter mi) (ok : BlkOk X.N X.env.scope scope own)
    (hg : ∀ s H C0 cl fp, PGd (Blk X s H scope C0 cl fp) C.nox tg f ss) (ht : ∀ s H C0 cl fp, PTsd (Blk X s H scope C0 cl fp) C.nox ifs mt) (he : ∀ s H C0 cl fp, PD (Blk X s H scope C0 cl fp) C.nox elt me)
    (hss : ∀ i ∈ ss, i ∈ own.map (·.2)) (hy : X.N[i]? = some y := by rfl) (hyl : X.env.scope.names.lookup y = some .local := by rfl) (hk : X.env.scope.kind = .function := by rfl) (hl : (py.line == pos.line) = true := by rfl) (ha : (scope.names.any fun (n, k) => n == y && (k == .local || k == .cell)) = false := by rfl)
    (hs : ∀ x, foldedSetIterable iter X.env x = pure x := by intro _; rfl) : PSd X C (.Assign [.Name y py] (.ListComp elt [⟨tg, iter, ifs, 0⟩] scope pos) spos) (sSet i (vF (mLc mi f mt me (own.map (·.2))))) := by
  obtain ⟨wi, p1, q1⟩ := lc_t (me := me) (mt := mt) (f := f) hi hss
  exact ⟨_, ps_setLc hc hN hy hyl (sw_true hk hyl hl ha) p1 ok (fun s H C0 cl fp => (hg s H C0 cl fp).star) (fun s H C0 cl fp => (ht s H C0 cl fp).star) (fun s H C0 cl fp => (he s H C0 cl fp).star) hs, set_t (postF_V (A := fun _ => True) (H := fun _ => none) q1) vF_no⟩
/-- name = {..: ..} on one line, the name a local -/
theorem sw_trueD {gs : List Comprehension} {l : Nat} {env : Env} (hk : env.scope.kind = .function) (hy : env.scope.names.lookup y = some .local) (hl : (py.line == pos.line) = true) (ha : (scope.names.any fun (n, k) => n == y && (k == .local || k == .cell)) = false) :
    swapsWith (.DictComp kx vx gs scope pos) (some (.Name y py)) l env = pure true := by
  have k1 : env.kindOf y = some .local := hy
  have k2 : env.blockKind = .function := by unfold Env.blockKind; rw [hk]; rfl
  unfold swapsWith
  simp only [k2, k1, ha, Expr.pos, hl]
  rfl
theorem ps_setDcZ {i : Nat} {own : List (Str × Nat)} {wi : TI} {g : TG} {tt : TT} {tk tv : TE} (hu : X.A.units + 1 < cLine) (hc : X.calm = true) (hN : X.N.Nodup) (hy : X.N[i]? = some y) (hyl : X.env.scope.names.lookup y = some .local)
    (hsw : swapsWith (.DictComp kx vx [⟨tg, iter, ifs, 0⟩] scope pos) (some (.Name y py)) spos.line X.env = pure true) (hi : PI X tg iter wi) (ok : BlkOk X.N X.env.scope scope own)
    (hg : ∀ s H C0 cl fp, PG (Blk X s H scope C0 cl fp) tg g) (ht : ∀ s H C0 cl fp, PTs (Blk X s H scope C0 cl fp) ifs tt) (hk : ∀ s H C0 cl fp, PE (Blk X s H scope C0 cl fp) kx tk) (hv : ∀ s H C0 cl fp, PE (Blk X s H scope C0 cl fp) vx tv)
    (hs : ∀ x, foldedSetIterable iter X.env x = pure x) : PS X (.Assign [.Name y py] (.DictComp kx vx [⟨tg, iter, ifs, 0⟩] scope pos) spos) (tAsg (tDcZ wi g tt tk tv (own.map (·.2))) (gName i)) := by
  refine ⟨fun pins s σ H D J h0 => ?_⟩
  rw [exec_Assign_Name_used _ _ _ _ hsw]
  refine wpAny_bind (wpAny_standAt (wpAny_bind ?_))
  show wpAny _ X.A (do let _ ← comprehension (.DictComp kx vx [⟨tg, iter, ifs, 0⟩] scope pos) scope X.env (firstIterPos [⟨tg, iter, ifs, 0⟩] pos) newDict false (eval iter X.env) (some (assign (.Name y py) X.env))) _ _ s
  have h1 : tDcZ wi g tt tk tv (own.map (·.2)) σ H (fun x H1 => gName i x σ H1 D.nx) := h0
  refine wpAny_bind (thn (dcz_core (Qf := fun _ s' => SP X pins D .next s') hu hc hN hi ok hg ht hk hv hs J h1 fun L Ca s' m H' J' q ns fp => ?_) fun _ s' hq => wpAny_pure (wpAny_pure hq))
  show wpAny _ _ (assign (.Name y py) X.env (.ref L)) _ _ _
  refine wpAny_assign_Name (store_ok2 (v := V.ref L) J' hN hy (.inl hyl) rfl (fun s2 J2 ⟨a, sb, ha⟩ => ?_) (.inr hyl))
  obtain ⟨g0, g1, g2, g3, g4, g5⟩ := fp
  have hne : Ca ≠ a := by
    rcases ha with z | z
    · rw [z]; exact g1
    · exact fun e => g4 y a z e.symm
  refine ⟨m, ns.sameBut sb hne, fun h3 sb3 => ⟨_, H', J2.turned (t' := s2.toks) (fun b o hb e => (sb3.2 b hb).trans e) g0 g1 g3 g4 g5, q⟩⟩
theorem psd_setDc (i : Nat) (own : List (Str × Nat)) (hu : X.A.units + 1 < cLine) (hc : X.calm = true) (hN : X.N.Nodup) (hi : PIs X C .bor tg iter mi) (ok : BlkOk X.N X.env.scope scope own)
    (hg : ∀ s H C0 cl fp, PGd (Blk X s H scope C0 cl fp) C.nox tg f ss) (ht : ∀ s H C0 cl fp, PTsd (Blk X s H scope C0 cl fp) C.nox ifs mt) (hk : ∀ s H C0 cl fp, PD (Blk X s H scope C0 cl fp) C.nox kx mk) (hv : ∀ s H C0 cl fp, PD (Blk X s H scope C0 cl fp) C.nox vx mv)
    (hss : ∀ i ∈ ss, i ∈ own.map (·.2)) (hy : X.N[i]? = some y := by rfl) (hyl : X.env.scope.names.lookup y = some .local := by rfl) (hkd : X.env.scope.kind = .function := by rfl) (hl : (py.line == pos.line) = true := by rfl) (ha : (scope.names.any fun (n, k) => n == y && (k == .local || k == .cell)) = false := by rfl)
    (hs : ∀ x, foldedSetIterable iter X.env x = pure x := by intro _; rfl) : PSd X C (.Assign [.Name y py] (.DictComp kx vx [⟨tg, iter, ifs, 0⟩] scope pos) spos) (sSet i (vF (mDc mi f mt mk mv (own.map (·.2))))) := by
  obtain ⟨wi, p1, q1⟩ := dc_t (mk := mk) (mv := mv) (mt := mt) (f := f) hi hss
  exact ⟨_, ps_setDcZ hu hc hN hy hyl (sw_trueD hkd hyl hl ha) p1 ok (fun s H C0 cl fp => (hg s H C0 cl fp).star) (fun s H C0 cl fp => (ht s H C0 cl fp).star) (fun s H C0 cl fp => (hk s H C0 cl fp).star) (fun s H C0 cl fp => (hv s H C0 cl fp).star) hs, set_t (postF_V (A := fun _ => True) (H := fun _ => none) q1) vF_no⟩
end

/-! ### a, b = x, y -/
def sPar (i j : Nat) (m1 m2 : Rd EV) : Sd := rdS m1 fun a => rdS m2 fun b E G => some (.nx ((E.set i (some a)).set j (some b)), G)
end
end Zd

set_option maxRecDepth 100000
set_option maxHeartbeats 4000000
namespace Zd
open PySem L2
open PyProof.Rows hiding St

theorem Rel.fresh {K : PySem.W.Frag} {B : Amb} {A : Addr → Prop} {E : Evn} {G G' : Rng} {σ : L2.St} {H H1 : Hp} {p : Addr} (R : Rel K B A E G σ H) (n : H p = none) (e : Ext B H H1) (j : JR B G' H1) (h : H1 p ≠ none) : Rel K B (fun a => A a ∨ a = p) E G' σ H1 := by
  refine ⟨fun i ev q => ?_, j, fun a z => ?_, fun a z => .inl (R.ef a z), R.len⟩
  · obtain ⟨v, h1, h2⟩ := R.slot i ev q
    exact ⟨v, h1, (h2.wide fun a z => z.imp id fun z => by rw [z]; exact n).ext e fun a z => .inl (R.ef a z)⟩
  · rcases z with z | z
    · exact e.trk a (R.trk a z)
    · rw [z]; exact h
theorem PErr.anti {C : Cn} {A A' : Addr → Prop} {H : Hp} {x : Exn} {G' : Rng} (h : ∀ a, A a → A' a) (p : PErr C A H x G') : PErr C A' H x G' := fun cls dx H2 e j q => p cls dx H2 e j (q.anti h)
section
variable {X : Cx} {C : Cn} {pos : Pos}
/-- a, b = x, y of plain names -/
theorem psd_par (i j : Nat) {x y : Str} {a b : Expr} {m1 m2 : Rd EV} {px py pt : Pos} {kt k2 pt2} (hc : X.calm = true) (hN : X.N.Nodup) (h1 : PV X C a m1) (h2 : PV X C b m2) (hij : i ≠ j) (hi : X.N[i]? = some x := by rfl) (hj : X.N[j]? = some y := by rfl)
    (hx : X.env.scope.names.lookup x = some .local := by rfl) (hy : X.env.scope.names.lookup y = some .local := by rfl) (hw : swappedStores [.Tuple [.Name x px, .Name y py] kt pt] (.Tuple [a, b] k2 pt2) X.env = pure (some [x, y]) := by rfl)
    (hs : swapsWithSole [.Tuple [.Name x px, .Name y py] kt pt] (.Tuple [a, b] k2 pt2) pos.line X.env = pure false := by rfl) (st1 : starEach [a, b] X.env = (false, eval a X.env) :: starEach [b] X.env := by rfl) (st2 : starEach [b] X.env = (false, eval b X.env) :: starEach [] X.env := by rfl) :
    PSd X C (.Assign [.Tuple [.Name x px, .Name y py] kt pt] (.Tuple [a, b] k2 pt2) pos) (sPar i j m1 m2) := by
  obtain ⟨t1, p1, q1⟩ := h1.ex
  obtain ⟨t2, p2, q2⟩ := h2.ex
  refine ⟨_, ps_par hc hN hi hj hij hx hy (pa_cons p1 (pa_cons p2 pa_nil st2) st1) hw hs, fun A0 O E G σ H D o G' R hm p => ?_⟩
  show t1 σ H fun v H1 => t2 σ H1 fun w H2 => ∃ v' w', [v, w] = [v', w'] ∧ D.nx ((σ.set i (some v')).set j (some w')) H2
  rcases rdS_cases hm with ⟨x, e1, rfl⟩ | ⟨ev, G1, e1, hm1⟩
  · exact q1 _ E G σ H _ _ _ R.rel e1 p.perr
  · refine q1 _ E G σ H _ _ _ R.rel e1 ?_
    have n1 := h1.no _ _ _ _ e1
    rcases rdS_cases hm1 with ⟨x, e2, rfl⟩ | ⟨ew, G2, e2, hm2⟩
    · cases ev with
      | d d1 => exact fun v H1 x1 j1 b1 => q2 _ E G1 σ H1 _ _ _ (R.rel.ext x1 j1) e2 (PErr.ext x1 p.perr)
      | own d1 => exact fun a1 H1 n1 x1 j1 b1 => q2 _ E G1 σ H1 _ _ _ (R.rel.fresh n1 x1 j1 b1.some) e2 (PErr.ext x1 (p.perr.anti fun a z => .inl z))
      | lk _ _ => cases n1
      | st => cases n1
      | scr _ => cases n1
    · cases hm2
      have n2 := h2.no _ _ _ _ e2
      cases ev with
      | lk _ _ => cases n1
      | st => cases n1
      | scr _ => cases n1
      | d d1 =>
        refine fun v H1 x1 j1 b1 => q2 _ E G1 σ H1 _ _ _ (R.rel.ext x1 j1) e2 ?_
        have R1 := (R.ext x1 j1).setD i b1
        cases ew with
        | d d2 => exact fun w H2 x2 j2 b2 => ⟨v, w, rfl, p O _ H2 ((R1.ext x2 j2).setD j b2) (.of (x1.trans x2))⟩
        | own d2 => exact fun a2 H2 n2 x2 j2 b2 => let ⟨r, s⟩ := R1.setF j n2 x2 j2 b2; ⟨v, _, rfl, p _ _ H2 r ((StepT.of x1).trans s)⟩
        | lk _ _ => cases n2
        | st => cases n2
        | scr _ => cases n2
      | own d1 =>
        refine fun a1 H1 m1 x1 j1 b1 => q2 _ E G1 σ H1 _ _ _ (R.rel.fresh m1 x1 j1 b1.some) e2 ?_
        obtain ⟨R1, s1⟩ := R.setF i m1 x1 j1 b1
        have sub : ∀ a, AO A0 (O.put i a1) a → AO A0 O a ∨ a = a1 := fun a z => by
          rcases z with z | ⟨k, z⟩
          · exact .inl (.inl z)
          · unfold Om.put at z
            split at z
            · cases z; exact .inr rfl
            · exact .inl (.inr ⟨k, z⟩)
        cases ew with
        | d d2 => exact fun w H2 x2 j2 b2 => ⟨_, w, rfl, p _ _ H2 ((R1.ext x2 j2).setD j (b2.anti sub)) (s1.trans (.of x2))⟩
        | own d2 => exact fun a2 H2 n2 x2 j2 b2 => let ⟨r, s⟩ := R1.setF j n2 x2 j2 (b2.anti fun a z => z.imp (sub a) id); ⟨_, _, rfl, p _ _ H2 r (s1.trans s)⟩
        | lk _ _ => cases n2
        | st => cases n2
        | scr _ => cases n2

/-! ### for -/
def forRun (f : Tg) (mb : Sd) : List PyData → Sd
  | [] => sNx
  | d :: ds => fun E G => (f d E).bind fun E1 => match mb E1 G with
    | some (.nx E2, G2) => forRun f mb ds E2 G2
    | some (.ct E2, G2) => forRun f mb ds E2 G2
    | some (.bk E2, G2) => some (.nx E2, G2)
    | r => r
def sFor (mi : Rd (List PyData)) (f : Tg) (mb : Sd) : Sd := rdS mi fun ds => forRun f mb ds
theorem psd_for {tg iter : Expr} {body : List Stmt} {mi : Rd (List PyData)} {f : Tg} {mb : Sd} {ss : List Nat} (hp : PassesOwn (model X.prog X.w) X.A X.env X.xe) (hc : X.calm = true) (hi : PIs X C .dat tg iter mi) (hg : PGd X C tg f ss) (hb : PSsd X C body mb)
    (hs : ∀ x, foldedSetIterable iter X.env x = pure x := by intro _; rfl) : PSd X C (.For tg iter body [] pos) (sFor mi f mb) := by
  obtain ⟨wi, p1, q1⟩ := hi.ex
  obtain ⟨okg, g, p2, q2⟩ := hg
  obtain ⟨tb, p3, q3⟩ := hb.ex
  refine ⟨_, ps_for hp hc p1 p2 p3 hs, fun A0 O E G σ H D o G' R hm p => ?_⟩
  rcases rdS_cases hm with ⟨x, e1, rfl⟩ | ⟨ds, G1, e1, hm1⟩
  · exact q1 _ E G σ H _ _ _ R.rel e1 p.perr
  · refine q1 _ E G σ H _ _ _ R.rel e1 fun J H1 x1 j1 fd => ?_
    have R1 := R.ext x1 j1
    obtain ⟨I, hI, F⟩ := fd (fun a => AO A0 O a ∨ H1 a = none) fun a z => z
    refine ⟨fun i m σ' H' => m = ds.length - i ∧ i ≤ ds.length ∧ ∃ O' E' G2, RelT C.K C.B A0 O' E' G2 σ' H' ∧ StepT C.B O H1 O' H' ∧ I H' ∧ forRun f mb (ds.drop i) E' G2 = some (o, G'), ⟨_, rfl, Nat.zero_le _, O, E, G1, R1, StepT.refl _ _ _, hI, by simpa using hm1⟩, ?_⟩
    have keepI : ∀ {O' H' H'' O''}, StepT C.B O H1 O' H' → I H' → StepT C.B O' H' O'' H'' → I H'' := fun s i t => F.stab _ _ i (fun a o q n => t.keep a o q (fun z => n (.inl (.inl (R.ef0 a z)))) fun k z => n ((s.new k a z).imp (fun ⟨l, w⟩ => .inr ⟨l, w⟩) id)) t.tup
    rintro i m σ2 H2 ⟨rfl, hi, O2, E2, G2, R2, s2, hI2, hr⟩
    by_cases hlt : i < ds.length
    · refine .inr ⟨F.go i H2 hlt hI2, fun σ' H' => i + 1 ≤ ds.length ∧ ∃ O' E' G2, RelT C.K C.B A0 O' E' G2 σ' H' ∧ StepT C.B O H1 O' H' ∧ I H' ∧ forRun f mb (ds.drop (i + 1)) E' G2 = some (o, G'), fun σ' H' h' => ⟨ds.length - (i + 1), by omega, rfl, h'⟩, fun v H3 hy => ?_⟩
      have lift : ∀ a, AO A0 O2 a → AO A0 O a ∨ H1 a = none := fun a z => by
        rcases z with z | ⟨k, z⟩
        · exact .inl (.inl z)
        · exact (s2.new k a z).imp (fun ⟨l, w⟩ => .inr ⟨l, w⟩) id
      obtain ⟨k3, d, hd, hv⟩ := F.yld i H2 v H3 (AO A0 O2) hlt (fun a z => ⟨.inr (lift a z), R2.rel.trk a z⟩) hI2 hy
      have R3 := R2.ext k3.ext (k3.jr R2.rel.jr)
      have s3 := s2.trans (StepT.of (O := O2) k3.ext)
      have hI3 : I H3 := F.stab _ _ hI2 (fun a o q _ => k3 a o q) fun a ys q => k3 a _ q
      rw [List.drop_eq_getElem_cons hlt] at hr
      have hd' : ds[i] = d := by rw [List.getElem?_eq_getElem hlt] at hd; exact Option.some.inj hd
      rw [hd'] at hr
      obtain ⟨E3, f1, f2⟩ := Option.bind_eq_some_iff.mp hr
      refine q2 _ v d E2 E3 G2 σ2 H3 _ R3.rel hv f1 fun σ4 R4 ag => ?_
      have R4 := R3.sets R4 (okg _ _ _ f1) ag
      split at f2
      · rename_i E5 G5 e5
        exact q3 A0 O2 E3 G2 σ4 H3 _ _ _ R4 e5 fun O6 σ6 H6 R6 s6 => ⟨hlt, O6, E5, G5, R6, s3.trans s6, keepI s3 hI3 s6, f2⟩
      · rename_i E5 G5 e5
        exact q3 A0 O2 E3 G2 σ4 H3 _ _ _ R4 e5 fun O6 σ6 H6 R6 s6 => ⟨hlt, O6, E5, G5, R6, s3.trans s6, keepI s3 hI3 s6, f2⟩
      · rename_i E5 G5 e5
        cases f2
        exact q3 A0 O2 E3 G2 σ4 H3 _ _ _ R4 e5 fun O6 σ6 H6 R6 s6 => p O6 σ6 H6 R6 (((StepT.of x1).trans s3).trans s6)
      · rename_i n1 n2 n3
        refine q3 A0 O2 E3 G2 σ4 H3 _ _ _ R4 f2 ((p.past ((StepT.of x1).trans s3)).ends (fun E' z _ => ?_) (fun E' z _ => ?_) (fun E' z _ => ?_) rfl)
        · subst z; exact (n1 _ _ f2).elim
        · subst z; exact (n3 _ _ f2).elim
        · subst z; exact (n2 _ _ f2).elim
    · have hi' : i = ds.length := by omega
      subst hi'
      refine .inl ⟨F.stop H2 hI2, ?_⟩
      rw [List.drop_length] at hr
      cases hr
      exact p O2 σ2 H2 R2 ((StepT.of x1).trans s2)

/-! ### while -/
def whRun (c : Rd Bool) (mb : Sd) : Nat → Sd
  | 0 => fun _ _ => none
  | n + 1 => rdS c fun k E G => if k = true then match mb E G with
      | some (.nx E2, G2) => whRun c mb n E2 G2
      | some (.ct E2, G2) => whRun c mb n E2 G2
      | some (.bk E2, G2) => some (.nx E2, G2)
      | r => r
    else some (.nx E, G)
open Classical in
/-- whatever turns it takes -/
noncomputable def sWh (c : Rd Bool) (mb : Sd) : Sd := fun E G => if h : ∃ n r, whRun c mb n E G = some r then whRun c mb h.choose E G else none
theorem whRun_more {c : Rd Bool} {mb : Sd} : ∀ {n : Nat} {E : Evn} {G : Rng} {r : Out × Rng}, whRun c mb n E G = some r → whRun c mb (n + 1) E G = some r
  | 0, _, _, _, h => by cases h
  | n + 1, E, G, r, h => by
    obtain ⟨o, G'⟩ := r
    unfold whRun at h ⊢
    rcases rdS_cases h with ⟨x, e1, rfl⟩ | ⟨k, G1, e1, h1⟩
    · unfold rdS; rw [e1]
    · unfold rdS; rw [e1]
      cases k with
      | false => exact h1
      | true =>
        simp only [if_true] at h1 ⊢
        split at h1
        · exact whRun_more h1
        · exact whRun_more h1
        · exact h1
        · exact h1
theorem whRun_le {c : Rd Bool} {mb : Sd} {n m : Nat} (h : n ≤ m) {E : Evn} {G : Rng} {r : Out × Rng} (e : whRun c mb n E G = some r) : whRun c mb m E G = some r := by
  induction h with
  | refl => exact e
  | step _ ih => exact whRun_more ih
theorem sWh_iff {c : Rd Bool} {mb : Sd} {E : Evn} {G : Rng} {r : Out × Rng} : sWh c mb E G = some r ↔ ∃ n, whRun c mb n E G = some r := by
  unfold sWh
  constructor
  · intro h
    split at h
    · exact ⟨_, h⟩
    · cases h
  · rintro ⟨n, h⟩
    have q : ∃ n r, whRun c mb n E G = some r := ⟨n, r, h⟩
    rw [dif_pos q]
    obtain ⟨r2, h2⟩ := q.choose_spec
    rw [h2]
    have a := whRun_le (Nat.le_max_left n q.choose) h
    have b := whRun_le (Nat.le_max_right n q.choose) h2
    rw [a] at b
    exact b.symm
theorem psd_wh {c : Expr} {body : List Stmt} {k : Rd Bool} {mb : Sd} (hp : PassesOwn (model X.prog X.w) X.A X.env X.xe) (hc : PTs' X C c k) (hb : PSsd X C body mb) : PSd X C (.While c body [] pos) (sWh k mb) := by
  obtain ⟨tc, p1, q1⟩ := hc.ex
  obtain ⟨tb, p3, q3⟩ := hb.ex
  refine ⟨_, ps_while hp p1 p3, fun A0 O E G σ H D o G' R hm p => ?_⟩
  obtain ⟨n, hm⟩ := sWh_iff.mp hm
  refine ⟨fun m σ' H' => ∃ O' E' G2, RelT C.K C.B A0 O' E' G2 σ' H' ∧ StepT C.B O H O' H' ∧ whRun k mb m E' G2 = some (o, G'), ⟨n, O, E, G, R, StepT.refl _ _ _, hm⟩, ?_⟩
  rintro m σ2 H2 ⟨O2, E2, G2, R2, s2, hr⟩
  cases m with
  | zero => cases hr
  | succ m =>
    unfold whRun at hr
    rcases rdS_cases hr with ⟨x, e1, rfl⟩ | ⟨b, G1, e1, h1⟩
    · exact q1 _ E2 G2 σ2 H2 _ _ _ R2.rel e1 (p.past s2).perr
    · refine q1 _ E2 G2 σ2 H2 _ _ _ R2.rel e1 fun H3 x3 j3 => ?_
      have R3 := R2.ext x3 j3
      have s3 := s2.trans (StepT.of (O := O2) x3)
      cases b with
      | false =>
        cases h1
        exact p O2 σ2 H3 R3 s3
      | true =>
        simp only [if_true] at h1 ⊢
        refine ⟨fun σ' H' => ∃ O' E' G2, RelT C.K C.B A0 O' E' G2 σ' H' ∧ StepT C.B O H O' H' ∧ whRun k mb m E' G2 = some (o, G'), fun σ' H' h => ⟨m, Nat.lt_succ_self m, h⟩, ?_⟩
        split at h1
        · rename_i E5 G5 e5
          exact q3 A0 O2 E2 G1 σ2 H3 _ _ _ R3 e5 fun O6 σ6 H6 R6 s6 => ⟨O6, E5, G5, R6, s3.trans s6, h1⟩
        · rename_i E5 G5 e5
          exact q3 A0 O2 E2 G1 σ2 H3 _ _ _ R3 e5 fun O6 σ6 H6 R6 s6 => ⟨O6, E5, G5, R6, s3.trans s6, h1⟩
        · rename_i E5 G5 e5
          cases h1
          exact q3 A0 O2 E2 G1 σ2 H3 _ _ _ R3 e5 fun O6 σ6 H6 R6 s6 => p O6 σ6 H6 R6 (s3.trans s6)
        · rename_i n1 n2 n3
          refine q3 A0 O2 E2 G1 σ2 H3 _ _ _ R3 h1 ((p.past s3).ends (fun E' z _ => ?_) (fun E' z _ => ?_) (fun E' z _ => ?_) rfl)
          · subst z; exact (n1 _ _ h1).elim
          · subst z; exact (n3 _ _ h1).elim
          · subst z; exact (n2 _ _ h1).elim
end
end Zd

set_option maxRecDepth 100000
set_option maxHeartbeats 4000000
namespace Zd
open PySem PySem.Spec L2
open PyProof.Rows hiding St

/-! ### a list takes over a tuple's items -/
theorem ext_tup (l : Addr) (xs : Array Value) (n : Nat) (b : Addr) (ys : Array Value) (k : Nat) (dc : Option Addr) (sl : Array (Option Value)) (f0 : ¬(!xs.isEmpty && Builtin.List.listTooLong (xs.size + ys.size)) = true) (f1 : xs.size ≤ sizeLine) (f2 : xs.size + ys.size ≤ sizeLine + 1) :
    Meets (Builtin.«list.extend» ⟨[.ref l, .ref b], []⟩) (fun _ R s => s.heap.get? l = some { cls := .type "list", dict := none, data := .seq xs n, slots := #[] } ∧ s.heap.get? b = some { cls := .type "tuple", dict := dc, data := .seq ys k, slots := sl } ∧ R (.ok (.ret Value.none)) { s with heap := s.heap.update l (Obj.mapSeq fun x => x ++ ys), toks := s.toks }) :=
  .of_wp fun prog w A R s h => by
    obtain ⟨hp, gn, dr, tk, os⟩ := s
    obtain ⟨h1, h2, h⟩ := h
    have g1 := PySem.AutoSeq1.sub_list_list
    have g2 := PySem.AutoSeq1.sub_tuple_list
    have g3 := PySem.AutoSeq1.sub_list_tuple
    have hz' : (xs ++ ys).size ≤ sizeLine + 1 := by rw [Array.size_append]; exact f2
    wp_walk using (wpAny_updateSeq h1 rfl (hz := f1) (_hz' := hz')), PySem.AutoSeq1.wpAny_loadPart' h1, PySem.AutoSeq1.wpAny_loadPart' h2
    exact ⟨_, rfl, h⟩
def rExtT (K : PySem.W.Frag) : V → List V → Hp → VK → Prop := fun x vs H Q => ∃ l b xs zs, x = .ref l ∧ vs = [.ref b] ∧ H l = some (.lst xs) ∧ (H b = some (.lst zs) ∨ SqT K H b zs) ∧ xs.length + zs.length ≤ sizeLine ∧ Q .non (upd H l (.lst (xs ++ zs)))
theorem mt_extT {X : Cx} : MtM X "list.extend" (rExtT X.K) := by
  intro pins s σ H x vs v us Q I rx rv h
  obtain ⟨l, b, xs, zs, rfl, rfl, hH, hB, hz, q⟩ := h
  rcases hB with hB | hB
  · exact mt_extend pins s σ H _ _ v us Q I rx rv ⟨l, b, xs, zs, rfl, rfl, hH, hB, hz, q⟩
  cases rx
  obtain ⟨u, rfl, ru⟩ := rv.one
  cases ru
  obtain ⟨z, its, n, r, hl, e⟩ := I.lstM hH
  obtain ⟨its2, r2, ⟨⟨oc, od, odt, osl⟩, e2, c2, n2, d2⟩, z2⟩ := I.tuple hB
  simp only at c2 d2
  subst c2 d2
  have hl2 := r2.length
  have hsz : its.toArray.size + its2.toArray.size ≤ sizeLine := by rw [List.size_toArray, List.size_toArray]; omega
  have big : ¬ (!its.toArray.isEmpty && Builtin.List.listTooLong (its.toArray.size + its2.toArray.size)) = true := by rw [notLongL hsz]; simp
  refine call_meets F.slot_list_extend ⟨_, e, rfl⟩ F.entry_list_extend (F.args_list_extend_2 _ _) (ext_tup l its.toArray n b its2.toArray n2 od osl big (by rw [List.size_toArray]; omega) (by omega)) ⟨e, e2, ?_⟩
  exact ⟨.non, _, I.lset (its' := its ++ its2) hH e (by simp) (r.append r2) (by rw [List.length_append]; omega), rfl, q⟩

section
variable {K : PySem.W.Frag} {B : Amb} {A0 : Addr → Prop} {O : Om} {E : Evn} {G : Rng} {σ : L2.St} {H : Hp} {X : Cx} {C : Cn} {pos : Pos}
/-- what a slot alone holds is written -/
theorem RelT.mut {i : Nat} {x : PyData} (R : RelT K B A0 O E G σ H) (e : E[i]? = some (some (.own x))) : ∃ p, O i = some p ∧ σ[i]? = some (some (.ref p)) ∧ OwnAt K H (AO A0 O) p x ∧ AO A0 O p ∧
    ∀ ob y, OwnAt K (upd H p ob) (AO A0 O) p y → RelT K B A0 O (E.set i (some (.own y))) G σ (upd H p ob) ∧ StepT B O H O (upd H p ob) := by
  obtain ⟨p, h1, h2⟩ := R.own i x e
  obtain ⟨v, h3, q, h4, nq, h5⟩ := R.rel.slot i _ e
  rw [h2] at h3
  cases h3
  cases h4
  have pA : AO A0 O p := .inr ⟨i, h1⟩
  have np : ¬ efs B p := fun z => R.out i p h1 (R.ef0 p z)
  refine ⟨p, h1, h2, h5, pA, fun ob y hy => ?_⟩
  have st : ∀ a o, H a = some o → ¬ AO A0 O a → upd H p ob a = some o ∧ ¬ AO A0 O a := fun a o q n => ⟨by rw [upd_ne fun z => n (by rw [z]; exact pA)]; exact q, n⟩
  have ht : Tups H (upd H p ob) := tups_upd h5.ne
  have tr : ∀ a, H a ≠ none → upd H p ob a ≠ none := fun a q => by
    by_cases z : a = p
    · rw [z, upd_same]; simp
    · rw [upd_ne z]; exact q
  have oth : ∀ {q z}, q ≠ p → OwnAt K H (AO A0 O) q z → OwnAt K (upd H p ob) (AO A0 O) q z := fun {q z} n h => h.step (fun o g => by rw [upd_ne n]; exact g) st ht
  have oth' : ∀ {q f z}, q ≠ p → LkAt K H (AO A0 O) q f z → LkAt K (upd H p ob) (AO A0 O) q f z := fun {q f z} n h => h.step (fun o g => by rw [upd_ne n]; exact g) st ht
  have lenE : i < σ.length := (List.getElem?_eq_some_iff.mp h2).1
  refine ⟨⟨⟨fun k ev hk => ?_, JR.upd R.rel.jr np, fun a z => tr a (R.rel.trk a z), R.rel.ef, by rw [List.length_set]; exact R.rel.len⟩, R.out, R.inj, fun k z hk => ?_, R.ef0, fun j f z q hj hq => by
    by_cases hij : i = j
    · subst hij
      rw [List.getElem?_set_self (by rw [R.rel.len]; exact lenE)] at hj
      cases hj
    · rw [List.getElem?_set_ne hij] at hj
      exact R.lkd j f z q hj hq⟩, ⟨⟨fun a o q _ n => by rw [upd_ne fun z => n i (by rw [z]; exact h1)]; exact q, tr, ht⟩, fun k q h => .inl ⟨k, h⟩⟩⟩
  · by_cases hik : i = k
    · subst hik
      rw [List.getElem?_set_self (by rw [R.rel.len]; exact lenE)] at hk
      cases hk
      exact ⟨_, h2, p, rfl, np, hy⟩
    · rw [List.getElem?_set_ne hik] at hk
      obtain ⟨w, g1, g2⟩ := R.rel.slot k ev hk
      refine ⟨w, g1, ?_⟩
      cases ev with
      | d z => exact Dv.step st ht g2
      | own z =>
        obtain ⟨q, rfl, nq, h⟩ := g2
        refine ⟨q, rfl, nq, oth (fun z => ?_) h⟩
        obtain ⟨q', g3, g4⟩ := R.own k _ hk
        rw [g1] at g4
        cases g4
        rw [z] at g3
        exact hik (R.inj i k p h1 g3)
      | lk f z =>
        obtain ⟨q, rfl, nq, h⟩ := g2
        exact ⟨q, rfl, nq, oth' (fun z => R.out i p h1 (R.lkd k _ _ p hk (by rw [← z]; exact g1))) h⟩
      | st => exact g2
      | scr ns =>
        obtain ⟨a, rfl, z1, z3⟩ := g2
        refine ⟨a, rfl, z1, ?_⟩
        rcases z3 with ⟨z2, o, z3⟩ | z3
        · by_cases ha : a = p
          · subst ha
            exfalso
            exact h5.nefrz _ _ z3
          · exact .inl ⟨z2, o, by rw [upd_ne ha]; exact z3⟩
        · exact .inr z3
  · by_cases hik : i = k
    · subst hik; exact ⟨p, h1, h2⟩
    · rw [List.getElem?_set_ne hik] at hk
      exact R.own k z hk
def onL (i : Nat) (f : List PyData → Sd) : Sd := fun E G => match E[i]? with
  | some (some (.own (.list ds))) => f ds E G
  | _ => none
def onD (i : Nat) (f : List (PyData × PyData) → Sd) : Sd := fun E G => match E[i]? with
  | some (some (.own (.dict ds))) => f ds E G
  | _ => none
theorem onL_some {i : Nat} {f : List PyData → Sd} {E : Evn} {G : Rng} {r : Out × Rng} (h : onL i f E G = some r) : ∃ ds, E[i]? = some (some (.own (.list ds))) ∧ f ds E G = some r := by
  unfold onL at h
  split at h
  · rename_i ds e; exact ⟨ds, e, h⟩
  · cases h
theorem onD_some {i : Nat} {f : List (PyData × PyData) → Sd} {E : Evn} {G : Rng} {r : Out × Rng} (h : onD i f E G = some r) : ∃ ds, E[i]? = some (some (.own (.dict ds))) ∧ f ds E G = some r := by
  unfold onD at h
  split at h
  · rename_i ds e; exact ⟨ds, e, h⟩
  · cases h
/-- the list at slot i is another one -/
theorem RelT.lput {i : Nat} {ds : List PyData} (R : RelT K B A0 O E G σ H) (e : E[i]? = some (some (.own (.list ds)))) : ∃ p xs, σ[i]? = some (some (.ref p)) ∧ H p = some (.lst xs) ∧ Dvs K H (AO A0 O) xs ds ∧
    ∀ ys es, ys.length ≤ sizeLine → Dvs K H (AO A0 O) ys es → RelT K B A0 O (E.set i (some (.own (.list es)))) G σ (upd H p (.lst ys)) ∧ StepT B O H O (upd H p (.lst ys)) ∧ ∀ v d, Dv K H (AO A0 O) v d → Dv K (upd H p (.lst ys)) (AO A0 O) v d := by
  obtain ⟨p, h1, h2, ⟨xs, h3, h4, h5⟩, h6, mu⟩ := R.mut e
  refine ⟨p, xs, h2, h3, h5, fun ys es hz q => ?_⟩
  have st : ∀ a o, H a = some o → ¬ AO A0 O a → upd H p (.lst ys) a = some o ∧ ¬ AO A0 O a := fun a o q n => ⟨by rw [upd_ne fun z => n (by rw [z]; exact h6)]; exact q, n⟩
  have ht : Tups H (upd H p (.lst ys)) := tups_upd fun zs e => by rw [h3] at e; cases e
  obtain ⟨r, s⟩ := mu (.lst ys) (.list es) ⟨ys, upd_same, hz, q.step st ht⟩
  exact ⟨r, s, fun v d h => h.step st ht⟩
theorem RelT.dput {i : Nat} {ds : List (PyData × PyData)} (R : RelT K B A0 O E G σ H) (e : E[i]? = some (some (.own (.dict ds)))) : ∃ p xs, σ[i]? = some (some (.ref p)) ∧ HDct H p xs ∧ Dvk K H (AO A0 O) xs ds ∧
    ∀ ob ys es, HOd ob ys → Dvk K H (AO A0 O) ys es → RelT K B A0 O (E.set i (some (.own (.dict es)))) G σ (upd H p ob) ∧ StepT B O H O (upd H p ob) ∧ ∀ v d, Dv K H (AO A0 O) v d → Dv K (upd H p ob) (AO A0 O) v d := by
  obtain ⟨p, h1, h2, ⟨xs, h3, h5⟩, h6, mu⟩ := R.mut e
  refine ⟨p, xs, h2, h3, h5, fun ob ys es ho q => ?_⟩
  have st : ∀ a o, H a = some o → ¬ AO A0 O a → upd H p ob a = some o ∧ ¬ AO A0 O a := fun a o q n => ⟨by rw [upd_ne fun z => n (by rw [z]; exact h6)]; exact q, n⟩
  have ht : Tups H (upd H p ob) := tups_upd h3.ne
  obtain ⟨r, s⟩ := mu ob (.dict es) ⟨ys, ⟨ob, upd_same, ho⟩, q.step st ht⟩
  exact ⟨r, s, fun v d h => h.step st ht⟩
theorem ty_lst {a : Addr} {xs : List V} (h : H a = some (.lst xs)) : tyV K "list" (.ref a) H := .inl ⟨rfl, xs, SqL.of h⟩
theorem lt_sz {n : Nat} (h : n < 100000) : n < sizeLine := Nat.lt_of_lt_of_le h (by decide)
variable {e : Expr} {m : Rd PyData} {x : Str} {np ap cp sp : Pos}
/-- x.append(e) -/
def sApp (i : Nat) (m : Rd PyData) : Sd := onL i fun ds => rdS m fun d E G => if ds.length < 100000 then some (.nx (E.set i (some (.own (.list (ds ++ [d]))))), G) else none
theorem psd_app (i : Nat) (h : PD X C e m) (hN : X.N[i]? = some x := by rfl) (hv : Vis X.env.scope x := by first | exact Or.inl rfl | exact Or.inr (Or.inl rfl) | exact Or.inr (Or.inr rfl)) (hd : (x == ("__debug__" : Str)) = false := by decide) (hcd : (x == ("__classdict__" : Str)) = false := by decide)
    (hline : (ap.endLine == cp.line) = true := by rfl) (hs : starEach [e] X.env = (false, eval e X.env) :: starEach [] X.env := by rfl) (hb : attributeBase (.Name x np) (Str.ofString "append") X.env (eval (.Name x np) X.env) = eval (.Name x np) X.env := by rfl)
    (hf : ((backTo cp (starEach [e] X.env)).all (fun x => !x.1) && (backToKw cp (keywordEach [] X.env)).all (fun x => x.1.isSome) && decide ([e].length + ([] : List Keyword).length + (if ([] : List Keyword).isEmpty then 0 else 1) < 30)) = true := by rfl)
    (hpl : (backTo cp (starEach [] X.env)).any (·.1) = false := by rfl)
    (hsw : swapsWith (.Call (.Attribute (.Name x np) (Str.ofString "append") ap) [e] [] cp) none sp.line X.env = pure false := by rfl) :
    PSd X C (.Expr (.Call (.Attribute (.Name x np) (Str.ofString "append") ap) [e] [] cp) sp) (sApp i m) := by
  obtain ⟨te, p1, q1⟩ := h.ex
  refine ⟨_, ps_expr (pe_bm F.plainAttrs_list F.slot_list_append F.type_list_append mt_append (pe_var hN hv hd hcd) (pa_cons p1 pa_nil hs) hb hf hline hs hpl) hsw, fun A0 O E G σ H D o G' R hm p => ?_⟩
  obtain ⟨ds, hE, hm⟩ := onL_some hm
  obtain ⟨l, xs, h1, h2, h3, _⟩ := R.lput hE
  refine ⟨_, h1, ty_lst h2, ?_⟩
  show te σ H fun v H1 => rAppend (.ref l) [v] H1 fun _ H2 => D.nx σ H2
  rcases rdS_cases hm with ⟨x, e1, rfl⟩ | ⟨d, G1, e1, hm1⟩
  · exact q1 _ E G σ H _ _ _ R.rel e1 p.perr
  · split at hm1
    case isFalse => cases hm1
    rename_i hz
    cases hm1
    refine q1 _ E G σ H _ _ _ R.rel e1 fun v H1 x1 j1 b1 => ?_
    obtain ⟨l', ys, g1, g2, g3, mu⟩ := (R.ext x1 j1).lput hE
    rw [h1] at g1
    cases g1
    have hl := g3.length
    have := lt_sz hz
    obtain ⟨r, s, _⟩ := mu (ys ++ [v]) (ds ++ [d]) (by simp; omega) (g3.snoc b1)
    exact ⟨l, ys, v, rfl, rfl, g2, by omega, p O σ _ r ((StepT.of x1).trans s)⟩
/-- x.extend(e) -/
def sExt (i : Nat) (m : Rd PyData) : Sd := onL i fun ds => rdS m fun d E G => match d with
  | .list es => if ds.length + es.length ≤ 100000 then some (.nx (E.set i (some (.own (.list (ds ++ es))))), G) else none
  | .tuple es => if ds.length + es.length ≤ 100000 then some (.nx (E.set i (some (.own (.list (ds ++ es))))), G) else none
  | _ => none
theorem psd_ext (i : Nat) (hK : X.K = C.K) (h : PB X C e m) (hN : X.N[i]? = some x := by rfl) (hv : Vis X.env.scope x := by first | exact Or.inl rfl | exact Or.inr (Or.inl rfl) | exact Or.inr (Or.inr rfl)) (hd : (x == ("__debug__" : Str)) = false := by decide) (hcd : (x == ("__classdict__" : Str)) = false := by decide)
    (hline : (ap.endLine == cp.line) = true := by rfl) (hs : starEach [e] X.env = (false, eval e X.env) :: starEach [] X.env := by rfl) (hb : attributeBase (.Name x np) (Str.ofString "extend") X.env (eval (.Name x np) X.env) = eval (.Name x np) X.env := by rfl)
    (hf : ((backTo cp (starEach [e] X.env)).all (fun x => !x.1) && (backToKw cp (keywordEach [] X.env)).all (fun x => x.1.isSome) && decide ([e].length + ([] : List Keyword).length + (if ([] : List Keyword).isEmpty then 0 else 1) < 30)) = true := by rfl)
    (hpl : (backTo cp (starEach [] X.env)).any (·.1) = false := by rfl)
    (hsw : swapsWith (.Call (.Attribute (.Name x np) (Str.ofString "extend") ap) [e] [] cp) none sp.line X.env = pure false := by rfl) :
    PSd X C (.Expr (.Call (.Attribute (.Name x np) (Str.ofString "extend") ap) [e] [] cp) sp) (sExt i m) := by
  obtain ⟨te, p1, q1⟩ := h.ex
  refine ⟨_, ps_expr (pe_bm F.plainAttrs_list F.slot_list_extend F.type_list_extend mt_extT (pe_var hN hv hd hcd) (pa_cons p1 pa_nil hs) hb hf hline hs hpl) hsw, fun A0 O E G σ H D o G' R hm p => ?_⟩
  obtain ⟨ds, hE, hm⟩ := onL_some hm
  obtain ⟨l, xs, h1, h2, h3, _⟩ := R.lput hE
  refine ⟨_, h1, ty_lst h2, ?_⟩
  show te σ H fun v H1 => rExtT X.K (.ref l) [v] H1 fun _ H2 => D.nx σ H2
  rcases rdS_cases hm with ⟨x, e1, rfl⟩ | ⟨d, G1, e1, hm1⟩
  · exact q1 _ E G σ H _ _ _ R.rel e1 p.perr
  · have go : ∀ es, (if ds.length + es.length ≤ 100000 then some (Out.nx (E.set i (some (.own (.list (ds ++ es))))), G1) else none) = some (o, G') → (∀ v H1, Bv C.K C.B H1 (AO A0 O) v d → ∃ b zs, v = .ref b ∧ (H1 b = some (.lst zs) ∨ SqT C.K H1 b zs) ∧ Dvs C.K H1 (AO A0 O) zs es) → te σ H fun v H1 => rExtT X.K (.ref l) [v] H1 fun _ H2 => D.nx σ H2 := fun es hm1 hb => by
      split at hm1
      case isFalse => cases hm1
      rename_i hz
      cases hm1
      refine q1 _ E G σ H _ _ _ R.rel e1 fun v H1 x1 j1 b1 => ?_
      obtain ⟨b, zs, rfl, k1, k2⟩ := hb v H1 b1
      obtain ⟨l', ys, g1, g2, g3, mu⟩ := (R.ext x1 j1).lput hE
      rw [h1] at g1
      cases g1
      have hl := g3.length
      have hl2 := k2.length
      have := sz hz
      obtain ⟨r, s, _⟩ := mu (ys ++ zs) (ds ++ es) (by simp; omega) (g3.append k2)
      exact ⟨l, b, ys, zs, rfl, rfl, g2, by rw [hK]; exact k1, by omega, p O σ _ r ((StepT.of x1).trans s)⟩
    split at hm1
    · refine go _ hm1 fun v H1 b => ?_
      obtain ⟨a, zs, rfl, k1, k2, k3⟩ := b.list
      exact ⟨a, zs, rfl, .inl k1, k3⟩
    · refine go _ hm1 fun v H1 b => ?_
      obtain ⟨a, zs, rfl, k1, k2, k3⟩ := b.tuple
      exact ⟨a, zs, rfl, .inr k1, k3⟩
    · cases hm1
/-- target = x.pop() -/
def sPop (f : Tg) (i : Nat) : Sd := onL i fun ds E G => (ds[ds.length - 1]?).bind fun d => (f d (E.set i (some (.own (.list ds.dropLast))))).map fun E1 => (.nx E1, G)
theorem psd_pop {tg : Expr} {f : Tg} {ss : List Nat} (i : Nat) (hg : PGd X C tg f ss) (hN : X.N[i]? = some x := by rfl) (hv : Vis X.env.scope x := by first | exact Or.inl rfl | exact Or.inr (Or.inl rfl) | exact Or.inr (Or.inr rfl)) (hd : (x == ("__debug__" : Str)) = false := by decide) (hcd : (x == ("__classdict__" : Str)) = false := by decide)
    (hline : (ap.endLine == cp.line) = true := by rfl) (hb : attributeBase (.Name x np) (Str.ofString "pop") X.env (eval (.Name x np) X.env) = eval (.Name x np) X.env := by rfl)
    (hsw : swapsWithSole [tg] (.Call (.Attribute (.Name x np) (Str.ofString "pop") ap) [] [] cp) sp.line X.env = pure false := by rfl) (hw : swappedStores [tg] (.Call (.Attribute (.Name x np) (Str.ofString "pop") ap) [] [] cp) X.env = pure none := by rfl)
    (ha : (assignEach [tg] X.env).map (·.2) = [assign tg X.env] := by rfl) : PSd X C (.Assign [tg] (.Call (.Attribute (.Name x np) (Str.ofString "pop") ap) [] [] cp) sp) (sPop f i) := by
  obtain ⟨ok, g, p2, q2⟩ := hg
  refine ⟨_, ps_asg (pe_bm0 F.plainAttrs_list F.slot_list_pop F.type_list_pop mt_pop (pe_var hN hv hd hcd) hb hline) p2 hsw hw ha, fun A0 O E G σ H D o G' R hm p => ?_⟩
  obtain ⟨ds, hE, hm⟩ := onL_some hm
  obtain ⟨d, hd1, hm⟩ := Option.bind_eq_some_iff.mp hm
  obtain ⟨E1, hf, hm⟩ := Option.map_eq_some_iff.mp hm
  cases hm
  obtain ⟨l, xs, h1, h2, h3, mu⟩ := R.lput hE
  obtain ⟨v, hv1, hv2⟩ := h3.get hd1
  refine ⟨_, h1, ty_lst h2, l, xs, v, rfl, rfl, h2, by rw [h3.length]; exact hv1, ?_⟩
  have hz := (R.mut hE)
  obtain ⟨_, _, _, ⟨zs, z1, z2, z3⟩, _⟩ := hz
  obtain ⟨r, s, k⟩ := mu xs.dropLast ds.dropLast (by
    have : (xs.dropLast).length ≤ xs.length := by simp
    have e := z3.length
    have e2 := h3.length
    omega) h3.dropLast
  exact q2 _ v d _ E1 _ σ _ _ r.rel (k v d hv2) hf fun σ' R' ag => p O σ' _ (r.sets R' (ok _ _ _ hf) ag) s
/-- target = x.pop(i) -/
def sPopAt (f : Tg) (i : Nat) (m : Rd PyData) : Sd := onL i fun ds => rdS m fun z E G => match z with
  | .int k => if -(2 ^ 63) ≤ k ∧ k < 2 ^ 63 then (seqIndex? k ds.length).bind fun j => (ds[j]?).bind fun d => (f d (E.set i (some (.own (.list (ds.eraseIdx j)))))).map fun E1 => (.nx E1, G) else none
  | _ => none
theorem Dvs.erase : ∀ {vs : List V} {ds : List PyData} (j : Nat), Dvs K H A0 vs ds → Dvs K H A0 (vs.eraseIdx j) (ds.eraseIdx j)
  | _, _, _, .nil => .nil
  | _, _, 0, .cons _ q => q
  | _, _, j + 1, .cons a q => .cons a (Dvs.erase j q)
theorem psd_popAt {tg : Expr} {f : Tg} {ss : List Nat} (i : Nat) (hg : PGd X C tg f ss) (h : PB X C e m) (hN : X.N[i]? = some x := by rfl) (hv : Vis X.env.scope x := by first | exact Or.inl rfl | exact Or.inr (Or.inl rfl) | exact Or.inr (Or.inr rfl)) (hd : (x == ("__debug__" : Str)) = false := by decide) (hcd : (x == ("__classdict__" : Str)) = false := by decide)
    (hline : (ap.endLine == cp.line) = true := by rfl) (hs : starEach [e] X.env = (false, eval e X.env) :: starEach [] X.env := by rfl) (hb : attributeBase (.Name x np) (Str.ofString "pop") X.env (eval (.Name x np) X.env) = eval (.Name x np) X.env := by rfl)
    (hf : ((backTo cp (starEach [e] X.env)).all (fun x => !x.1) && (backToKw cp (keywordEach [] X.env)).all (fun x => x.1.isSome) && decide ([e].length + ([] : List Keyword).length + (if ([] : List Keyword).isEmpty then 0 else 1) < 30)) = true := by rfl)
    (hpl : (backTo cp (starEach [] X.env)).any (·.1) = false := by rfl)
    (hsw : swapsWithSole [tg] (.Call (.Attribute (.Name x np) (Str.ofString "pop") ap) [e] [] cp) sp.line X.env = pure false := by rfl) (hw : swappedStores [tg] (.Call (.Attribute (.Name x np) (Str.ofString "pop") ap) [e] [] cp) X.env = pure none := by rfl)
    (ha : (assignEach [tg] X.env).map (·.2) = [assign tg X.env] := by rfl) : PSd X C (.Assign [tg] (.Call (.Attribute (.Name x np) (Str.ofString "pop") ap) [e] [] cp) sp) (sPopAt f i m) := by
  obtain ⟨ok, g, p2, q2⟩ := hg
  obtain ⟨te, p1, q1⟩ := h.ex
  refine ⟨_, ps_asg (pe_bm F.plainAttrs_list F.slot_list_pop F.type_list_pop mt_popAt (pe_var hN hv hd hcd) (pa_cons p1 pa_nil hs) hb hf hline hs hpl) p2 hsw hw ha, fun A0 O E G σ H D o G' R hm p => ?_⟩
  obtain ⟨ds, hE, hm⟩ := onL_some hm
  obtain ⟨l, xs, h1, h2, h3, _⟩ := R.lput hE
  refine ⟨_, h1, ty_lst h2, ?_⟩
  show te σ H fun z H1 => rPopAt (.ref l) [z] H1 fun v H2 => g v σ H2 D.nx
  rcases rdS_cases hm with ⟨x, e1, rfl⟩ | ⟨z, G1, e1, hm1⟩
  · exact q1 _ E G σ H _ _ _ R.rel e1 p.perr
  · split at hm1
    case h_2 => cases hm1
    rename_i k
    split at hm1
    case isFalse => cases hm1
    rename_i hk
    obtain ⟨j, hj, hm1⟩ := Option.bind_eq_some_iff.mp hm1
    obtain ⟨d, hd1, hm1⟩ := Option.bind_eq_some_iff.mp hm1
    obtain ⟨E1, hf, hm1⟩ := Option.map_eq_some_iff.mp hm1
    cases hm1
    refine q1 _ E G σ H _ _ _ R.rel e1 fun z H1 x1 j1 b1 => ?_
    cases b1.int
    obtain ⟨l', ys, g1, g2, g3, mu⟩ := (R.ext x1 j1).lput hE
    rw [h1] at g1
    cases g1
    obtain ⟨v, hv1, hv2⟩ := g3.get hd1
    obtain ⟨_, _, _, ⟨zs, z1, z2, z3⟩, _⟩ := (R.ext x1 j1).mut hE
    have e1 := z3.length
    have e2 := g3.length
    obtain ⟨r, s, kk⟩ := mu (ys.eraseIdx j) (ds.eraseIdx j) (Nat.le_trans (List.length_eraseIdx_le _ _) (by omega)) (g3.erase j)
    refine ⟨l, ys, k, j, v, rfl, rfl, g2, hk.1, hk.2, by rw [e2]; exact hj, hv1, ?_⟩
    exact q2 _ v d _ E1 _ σ _ _ r.rel (kk v d hv2) hf fun σ' R' ag => p O σ' _ (r.sets R' (ok _ _ _ hf) ag) ((StepT.of x1).trans s)
end
end Zd

set_option maxRecDepth 100000
set_option maxHeartbeats 4000000
namespace Zd
open PySem PySem.Spec L2
open PyProof.Rows hiding St
section
variable {K : PySem.W.Frag} {B : Amb} {A0 : Addr → Prop} {O : Om} {E : Evn} {G : Rng} {σ : L2.St} {H : Hp} {X : Cx} {C : Cn} {pos : Pos} {e : Expr} {m mk : Rd PyData} {x : Str} {np sp tp : Pos}
theorem ps_dputZ {X : Cx} {o i value : Expr} {td ty tv : TE} {pos pos' : Pos} (hu : X.A.units + 1 < cLine) (ho : PE X o td) (hi : PE X i ty) (hv : PE X value tv) (hs : swapsWith value (some (.Subscript o i pos')) pos.line X.env = pure false) :
    PS X (.Assign [.Subscript o i pos'] value pos) (fun D σ H => tv σ H fun v H1 => td σ H1 fun x H2 => ty σ H2 fun y H3 => ∃ a H4, x = .ref a ∧ ZPut H3 a y v H4 ∧ D.nx σ H4) := by
  refine ⟨fun pins s σ H D I h => wpAny_Assign_Subscript (thn (hv.run pins s σ H _ I h) fun r s1 ⟨v, H1, I1, rv, q1⟩ => thn (ho.run pins s1 σ H1 _ I1 q1) fun u s2 ⟨x, H2, I2, rx, q2⟩ => thn (hi.run pins s2 σ H2 _ I2 q2) fun iv s3 ⟨y, H3, I3, ry, a, H4, ex, g, q3⟩ => ?_) hs⟩
  subst ex
  obtain rfl : u = Value.ref a := rx
  exact z_set hu I3 g ry rv fun s4 I4 => ⟨σ, H4, I4, q3⟩
/-- d[k] = v -/
def sDput (i : Nat) (mk mv : Rd PyData) : Sd := onD i fun ds => rdS mv fun v => rdS mk fun y E G => (keyOf y).bind fun k => if ds.length < 100000 ∧ fitB ds k = true then some (.nx (E.set i (some (.own (.dict (putD ds k v))))), G) else none
theorem psd_dput (i : Nat) {ke : Expr} (hu : X.A.units + 1 < cLine) (hk : PB X C ke mk) (h : PD X C e m) (hN : X.N[i]? = some x := by rfl) (hv : Vis X.env.scope x := by first | exact Or.inl rfl | exact Or.inr (Or.inl rfl) | exact Or.inr (Or.inr rfl)) (hd : (x == ("__debug__" : Str)) = false := by decide) (hcd : (x == ("__classdict__" : Str)) = false := by decide)
    (hs : swapsWith e (some (.Subscript (.Name x np) ke tp)) sp.line X.env = pure false := by rfl) : PSd X C (.Assign [.Subscript (.Name x np) ke tp] e sp) (sDput i mk m) := by
  obtain ⟨te, p1, q1⟩ := h.ex
  obtain ⟨tk, p2, q2⟩ := hk.ex
  refine ⟨_, ps_dputZ hu (pe_var hN hv hd hcd) p2 p1 hs, fun A0 O E G σ H D o G' R hm p => ?_⟩
  obtain ⟨ds, hE, hm⟩ := onD_some hm
  obtain ⟨l, xs, h1, h2, h3, _⟩ := R.dput hE
  show te σ H fun v H1 => ∃ w, σ[i]? = some (some w) ∧ tk σ H1 fun y H3 => ∃ a H4, w = .ref a ∧ ZPut H3 a y v H4 ∧ D.nx σ H4
  rcases rdS_cases hm with ⟨x, e1, rfl⟩ | ⟨d, G1, e1, hm1⟩
  · exact q1 _ E G σ H _ _ _ R.rel e1 p.perr
  · refine q1 _ E G σ H _ _ _ R.rel e1 fun v H1 x1 j1 b1 => ⟨_, h1, ?_⟩
    have R1 := R.ext x1 j1
    rcases rdS_cases hm1 with ⟨x, e2, rfl⟩ | ⟨y, G2, e2, hm2⟩
    · exact q2 _ E G1 σ H1 _ _ _ R1.rel e2 (p.past (.of x1)).perr
    · obtain ⟨k, hk1, hm2⟩ := Option.bind_eq_some_iff.mp hm2
      split at hm2
      case isFalse => cases hm2
      rename_i hz
      cases hm2
      refine q2 _ E G1 σ H1 _ _ _ R1.rel e2 fun w H2 x2 j2 b2 => ?_
      obtain ⟨l', ys, g1, g2, g3, mu⟩ := (R1.ext x2 j2).dput hE
      rw [h1] at g1
      cases g1
      have hl := g3.len
      have := lt_sz hz.1
      obtain ⟨o, zp, ho⟩ := zput_of (y := w) (v := v) g2 (b2.key hk1) (g3.fit hz.2) (by omega)
      obtain ⟨r, s, _⟩ := mu o (putK ys k v) (putD ds k d) ho (g3.put k (b1.ext x2 R1.rel.ef))
      exact ⟨l, _, rfl, zp, p O σ _ r (((StepT.of x1).trans (.of x2)).trans s)⟩
/-- x[i] = v in a list -/
def sLput (i : Nat) (mk mv : Rd PyData) : Sd := onL i fun ds => rdS mv fun v => rdS mk fun y E G => match y with
  | .int k => (ixN ds.length k).map fun j => (.nx (E.set i (some (.own (.list (ds.set j v))))), G)
  | _ => none
theorem Dvs.set {A : Addr → Prop} {w : V} {d : PyData} (h : Dv K H A w d) : ∀ {vs : List V} {ds : List PyData} (j : Nat), Dvs K H A vs ds → Dvs K H A (vs.set j w) (ds.set j d)
  | _, _, _, .nil => .nil
  | _, _, 0, .cons _ q => .cons h q
  | _, _, j + 1, .cons a q => .cons a (Dvs.set h j q)
theorem psd_lput (i : Nat) {ke : Expr} (hk : PB X C ke mk) (h : PD X C e m) (hN : X.N[i]? = some x := by rfl) (hv : Vis X.env.scope x := by first | exact Or.inl rfl | exact Or.inr (Or.inl rfl) | exact Or.inr (Or.inr rfl)) (hd : (x == ("__debug__" : Str)) = false := by decide) (hcd : (x == ("__classdict__" : Str)) = false := by decide)
    (ha : ∀ v, assign (.Subscript (.Name x np) ke tp) X.env v = (do
      let ov ← holding [v] (eval (.Name x np) X.env)
      let iv ← holding [v, ov] (eval ke X.env)
      standAt tp
      holding [v, ov, iv] (setItem ov iv v)
      release [v, ov, iv] []) := by intro _; rfl)
    (hs : swapsWithSole [.Subscript (.Name x np) ke tp] e sp.line X.env = pure false := by rfl) (hw : swappedStores [.Subscript (.Name x np) ke tp] e X.env = pure none := by rfl)
    (hst : (assignEach [.Subscript (.Name x np) ke tp] X.env).map (·.2) = [assign (.Subscript (.Name x np) ke tp) X.env] := by rfl) : PSd X C (.Assign [.Subscript (.Name x np) ke tp] e sp) (sLput i mk m) := by
  obtain ⟨te, p1, q1⟩ := h.ex
  obtain ⟨tk, p2, q2⟩ := hk.ex
  refine ⟨_, ps_asg p1 (pg_sub (pe_var hN hv hd hcd) p2 set_list ha) hs hw hst, fun A0 O E G σ H D o G' R hm p => ?_⟩
  obtain ⟨ds, hE, hm⟩ := onL_some hm
  obtain ⟨l, xs, h1, h2, h3, _⟩ := R.lput hE
  show te σ H fun v H1 => ∃ w, σ[i]? = some (some w) ∧ tk σ H1 fun y H3 => rSetL w y v H3 fun H4 => D.nx σ H4
  rcases rdS_cases hm with ⟨x, e1, rfl⟩ | ⟨d, G1, e1, hm1⟩
  · exact q1 _ E G σ H _ _ _ R.rel e1 p.perr
  · refine q1 _ E G σ H _ _ _ R.rel e1 fun v H1 x1 j1 b1 => ⟨_, h1, ?_⟩
    have R1 := R.ext x1 j1
    rcases rdS_cases hm1 with ⟨x, e2, rfl⟩ | ⟨y, G2, e2, hm2⟩
    · exact q2 _ E G1 σ H1 _ _ _ R1.rel e2 (p.past (.of x1)).perr
    · split at hm2
      case h_2 => cases hm2
      rename_i k
      obtain ⟨j, hj, hm2⟩ := Option.map_eq_some_iff.mp hm2
      cases hm2
      refine q2 _ E G1 σ H1 _ _ _ R1.rel e2 fun w H2 x2 j2 b2 => ?_
      cases b2.int
      have R2 := R1.ext x2 j2
      obtain ⟨l', ys, g1, g2, g3, mu⟩ := R2.lput hE
      obtain ⟨_, _, z0, ⟨zs, z1, z2, z3⟩, _⟩ := R2.mut hE
      rw [h1] at g1 z0
      cases g1
      cases z0
      rw [g2] at z1
      cases z1
      obtain ⟨r, s, _⟩ := mu (ys.set j v) (ds.set j d) (by rw [List.length_set]; exact z2) (g3.set (b1.ext x2 R1.rel.ef) j)
      exact ⟨l, ys, k, j, rfl, rfl, g2, by rw [g3.length]; exact hj, p O σ _ r (((StepT.of x1).trans (.of x2)).trans s)⟩

/-! ### what a slot alone holds becomes data -/
def Om.cut (O : Om) (i : Nat) : Om := fun j => if j = i then none else O j
theorem AO.cut {i : Nat} : ∀ a, AO A0 (O.cut i) a → AO A0 O a := fun a z => z.imp id fun ⟨k, z⟩ => by
  unfold Om.cut at z
  split at z
  · cases z
  · exact ⟨k, z⟩
theorem RelEV.anti {A A' : Addr → Prop} {B : Amb} {v : V} {ev : EV} (h : ∀ a, A' a → A a) (q : RelEV K B A H v ev) : RelEV K B A' H v ev := by
  cases ev with
  | d z => exact Dv.anti h q
  | own z => obtain ⟨p, h1, h2, h3⟩ := q; exact ⟨p, h1, h2, h3.anti h⟩
  | lk f z => obtain ⟨p, h1, h2, h3⟩ := q; exact ⟨p, h1, h2, h3.step (fun _ q => q) (fun a o q n => ⟨q, fun z => n (h a z)⟩) fun _ _ q => q⟩
  | st => exact q
  | scr ns => exact q
theorem RelT.cut {i : Nat} {y : PyData} (R : RelT K B A0 O E G σ H) (e : E[i]? = some (some (.own y))) : ∃ p, σ[i]? = some (some (.ref p)) ∧ O i = some p ∧ ¬ AO A0 (O.cut i) p ∧ OwnAt K H (AO A0 (O.cut i)) p y ∧
    ∀ ev, RelEV K B (AO A0 (O.cut i)) H (.ref p) ev → noEV ev = false → (∀ z, ev ≠ .own z) → RelT K B A0 (O.cut i) (E.set i (some ev)) G σ H := by
  obtain ⟨p, h1, h2, h3, h4, _⟩ := R.mut e
  have np : ¬ AO A0 (O.cut i) p := fun z => by
    rcases z with z | ⟨k, z⟩
    · exact R.out i p h1 z
    · unfold Om.cut at z
      split at z
      · cases z
      · rename_i hk; exact hk (R.inj k i p z h1)
  have lenE : i < σ.length := (List.getElem?_eq_some_iff.mp h2).1
  refine ⟨p, h2, h1, np, h3.anti AO.cut, fun ev hev n1 n2 => ⟨⟨fun k w hk => ?_, R.rel.jr, fun a z => R.rel.trk a (AO.cut a z), fun a z => .inl (R.ef0 a z), by rw [List.length_set]; exact R.rel.len⟩, fun k q hk => ?_, fun k l q hk hl => ?_, fun k w hk => ?_, R.ef0, fun k f w q hk hq => ?_⟩⟩
  · by_cases hik : i = k
    · subst hik
      rw [List.getElem?_set_self (by rw [R.rel.len]; exact lenE)] at hk
      cases hk
      exact ⟨_, h2, hev⟩
    · rw [List.getElem?_set_ne hik] at hk
      obtain ⟨v, g1, g2⟩ := R.rel.slot k w hk
      exact ⟨v, g1, g2.anti AO.cut⟩
  · unfold Om.cut at hk
    split at hk
    · cases hk
    · exact R.out k q hk
  · unfold Om.cut at hk hl
    split at hk
    · cases hk
    · split at hl
      · cases hl
      · exact R.inj k l q hk hl
  · by_cases hik : i = k
    · subst hik
      rw [List.getElem?_set_self (by rw [R.rel.len]; exact lenE)] at hk
      cases hk
      exact (n2 _ rfl).elim
    · rw [List.getElem?_set_ne hik] at hk
      obtain ⟨q, g1, g2⟩ := R.own k w hk
      exact ⟨q, by unfold Om.cut; rw [if_neg fun z => hik z.symm]; exact g1, g2⟩
  · by_cases hik : i = k
    · subst hik
      rw [List.getElem?_set_self (by rw [R.rel.len]; exact lenE)] at hk
      cases hk
      cases n1
    · rw [List.getElem?_set_ne hik] at hk
      exact R.lkd k f w q hk hq
theorem StepT.cut (i : Nat) : StepT B O H (O.cut i) H := ⟨.of (Ext.refl _ _), fun k p h => .inl ⟨k, by
  unfold Om.cut at h
  split at h
  · cases h
  · exact h⟩⟩
theorem OwnAt.dv {A : Addr → Prop} {p : Addr} {y : PyData} (h : OwnAt K H A p y) (n : ¬ A p) : Dv K H A (.ref p) y := by
  cases y with
  | list ds => obtain ⟨xs, h1, h2, h3⟩ := h; exact .lst h1 n h2 h3
  | dict ds => obtain ⟨xs, h1, h3⟩ := h; exact .dct h1.rd n h3
  | _ => exact h.elim
/-- from here on the slot holds data -/
def sFrz (i : Nat) (a : Sd) : Sd := fun E G => match E[i]? with
  | some (some (.own y)) => a (E.set i (some (.d y))) G
  | _ => a E G
theorem frz_t {a : Sd} {i : Nat} {t : TS} (q : ∀ A0 O E G σ H D o G', RelT C.K C.B A0 O E G σ H → a E G = some (o, G') → PostS C A0 O H o G' D → t D σ H) : ∀ A0 O E G σ H D o G', RelT C.K C.B A0 O E G σ H → sFrz i a E G = some (o, G') → PostS C A0 O H o G' D → t D σ H := fun A0 O E G σ H D o G' R hm p => by
  unfold sFrz at hm
  split at hm
  · rename_i y e
    obtain ⟨p', h1, h2, h3, h4, h5⟩ := R.cut e
    exact q A0 _ _ G σ H D o G' (h5 (.d y) (h4.dv h3) rfl fun z w => by cases w) hm (p.past (StepT.cut i))
  · exact q A0 O E G σ H D o G' R hm p
theorem PSsd.frz {sts : List Stmt} {a : Sd} (i : Nat) (h : PSsd X C sts a) : PSsd X C sts (sFrz i a) := by
  obtain ⟨t, p1, q1⟩ := h.ex
  exact ⟨t, p1, frz_t q1⟩
theorem PSd.frz {st : Stmt} {a : Sd} (i : Nat) (h : PSd X C st a) : PSd X C st (sFrz i a) := by
  obtain ⟨t, p1, q1⟩ := h.ex
  exact ⟨t, p1, frz_t q1⟩
/-- return x: the caller's own from then on -/
def sRetO (i : Nat) : Sd := fun E G => match E[i]? with
  | some (some (.own y)) => some (.retF y, G)
  | _ => none
theorem psd_retO (i : Nat) (hN : X.N[i]? = some x := by rfl) (hv : Vis X.env.scope x := by first | exact Or.inl rfl | exact Or.inr (Or.inl rfl) | exact Or.inr (Or.inr rfl)) (hd : (x == ("__debug__" : Str)) = false := by decide) (hcd : (x == ("__classdict__" : Str)) = false := by decide) :
    PSd X C (.Return (some (.Name x np)) pos) (sRetO i) := by
  refine ⟨_, ps_ret (pe_var hN hv hd hcd), fun A0 O E G σ H D o G' R hm p => ?_⟩
  unfold sRetO at hm
  split at hm
  · rename_i y e
    cases hm
    obtain ⟨p', h1, h2, h3, h4, h5⟩ := R.cut e
    obtain ⟨_, g1, g2, g3, g4, _⟩ := R.mut e
    rw [h2] at g1
    cases g1
    refine ⟨_, h1, p _ H (.of (Ext.refl _ _)) R.rel.jr (.inl ⟨i, h2⟩) (g3.anti fun a z => z.elim .inl fun z => by rw [z]; exact g4)⟩
  · cases hm
/-- y = x: x is forgotten -/
def sMv (i j : Nat) : Sd := fun E G => match E[i]? with
  | some (some (.own y)) => some (.nx ((E.set i none).set j (some (.own y))), G)
  | _ => none
end

/-! ### a op b op c -/
section
variable {X : Cx} {C : Cn} {pos : Pos} {a b c : Expr} {op op' : CmpOp} {g g' : PyData → PyData → Option PyData} {m1 m2 m3 : Rd PyData}
theorem chain_core {ta tb tc : TE}
    (h1 : ∀ A E G σ H Q r G', Rel C.K C.B A E G σ H → m1 E G = some (r, G') → PostB C A H r G' Q → ta σ H Q)
    (h2 : ∀ A E G σ H Q r G', Rel C.K C.B A E G σ H → m2 E G = some (r, G') → PostB C A H r G' Q → tb σ H Q)
    (h3 : ∀ A E G σ H Q r G', Rel C.K C.B A E G σ H → m3 E G = some (r, G') → PostB C A H r G' Q → tc σ H Q) :
    ∀ A E G σ H Q r G', Rel C.K C.B A E G σ H → mChain g g' m1 m2 m3 E G = some (r, G') → PostD C A H r G' Q → tChain (rZ2 C g) (rZ2 C g') ta tb tc σ H Q := by
  intro A E G σ H Q r G' R hm p
  show ta σ H fun x H1 => tb σ H1 fun y H2 => rZ2 C g x y H2 fun z H3 => ∃ k, z = .bl k ∧ (if k = true then tc σ H3 fun w' H4 => rZ2 C g' y w' H4 Q else Q (.bl false) H3)
  refine goB h1 R hm p.err fun d1 G1 v1 H1 e1 R1 q1 hm1 => ?_
  refine goB h2 R1 hm1 (fun x hx => (p.err x hx).ext e1) fun d2 G2 v2 H2 e2 R2 q2 hm2 => ?_
  rcases Rd.bind_cases hm2 with ⟨x, f1, f2⟩ | ⟨k, G3, f1, f2⟩
  · obtain ⟨o, ho, z, _⟩ := Rd.lift_cases f1
    cases z
  · obtain ⟨o, ho, z1, z2⟩ := Rd.lift_cases f1
    cases z1
    subst z2
    obtain ⟨dz, hz, hk⟩ := Option.bind_eq_some_iff.mp ho
    refine ⟨A, d1, d2, dz, R2.trk, R2.ef, q1.ext e2 R.ef, q2, hz, fun v H3 kp q => ?_⟩
    unfold asB at hk
    split at hk
    case h_2 => cases hk
    rename_i b
    cases hk
    cases q
    refine ⟨k, rfl, ?_⟩
    have R3 := R2.ext kp.ext (kp.jr R2.jr)
    cases k with
    | false =>
      cases f2
      exact p _ H3 ((e1.trans e2).trans kp.ext) R3.jr (.bl false)
    | true =>
      simp only [if_true] at f2 ⊢
      refine goB h3 R3 f2 (fun x hx => (p.err x hx).ext ((e1.trans e2).trans kp.ext)) fun d3 G4 v3 H4 e4 R4 q4 hm4 => ?_
      obtain ⟨dw, hw, rfl, rfl⟩ := Rd.lift_cases hm4
      exact ⟨A, d2, d3, dw, R4.trk, R4.ef, (q2.ext kp.ext R2.ef).ext e4 R.ef, q4, hw, fun v H' k2 q => p v H' ((((e1.trans e2).trans kp.ext).trans e4).trans k2.ext) (k2.jr R4.jr) q⟩
theorem pd_chain (ho : OpR X (compareOp op) (rZ2 C g)) (ho' : OpR X (compareOp op') (rZ2 C g')) (h1 : PB X C a m1) (h2 : PB X C b m2) (h3 : PB X C c m3) (hm : lastMarks [op, op'] [b, c] = false := by with_unfolding_all rfl) : PD X C (.Compare a [op, op'] [b, c] pos) (mChain g g' m1 m2 m3) := by
  obtain ⟨ta, p1, q1⟩ := h1.ex
  obtain ⟨tb, p2, q2⟩ := h2.ex
  obtain ⟨tc, p3, q3⟩ := h3.ex
  exact ⟨_, pe_chain ho ho' p1 p2 p3 hm, chain_core q1 q2 q3⟩
theorem pt_chain' (ho : OpR X (compareOp op) (rZ2 C g)) (ho' : OpR X (compareOp op') (rZ2 C g')) (h1 : PB X C a m1) (h2 : PB X C b m2) (h3 : PB X C c m3) (hm : lastMarks [op, op'] [b, c] = false := by with_unfolding_all rfl) : PTs' X C (.Compare a [op, op'] [b, c] pos) (mT (mChain g g' m1 m2 m3)) := by
  obtain ⟨ta, p1, q1⟩ := h1.ex
  obtain ⟨tb, p2, q2⟩ := h2.ex
  obtain ⟨tc, p3, q3⟩ := h3.ex
  exact ⟨_, pt_chain ho ho' p1 p2 p3 hm, test_core (chain_core q1 q2 q3)⟩
end
end Zd

set_option maxRecDepth 100000
set_option maxHeartbeats 4000000
namespace Zd
open PySem PySem.Spec L2
open PyProof.Rows hiding St

/-! ### a def of the text: as FnOk, where no object is being printed -/
structure FnG (P : Program) (w : World) (K : PySem.W.Frag) (mg : Str → Option Value) (base : Heap) (CX : CXT) (k : Nat) (f : Addr) (fd : FuncData) (ps : List Str) (sp : Sp) : Prop where
  len : ∀ vs H Q E, sp vs H Q E → vs.length = ps.length
  run : ∀ (A : Around) (st : List Env) (s : Shared) (H : Hp) (ar : Args) (us : List Value) (vs : List V) (Q : VK) (E : XK), Room k A → A.guards = some [] → Env0 P w K mg base A st s H → BindsTo s fd ar (ps.zip us) → Vals vs us → sp vs H Q E →
    codeAny (model P w) A (.call (.ref f) ar) (CR CX st P w H s Q E) s
theorem FnG.up {P : Program} {w : World} {K : PySem.W.Frag} {mg : Str → Option Value} {base : Heap} {CX : CXT} {j k : Nat} {f : Addr} {fd : FuncData} {ps : List Str} {sp : Sp} (F : FnG P w K mg base CX j f fd ps sp) (h : j ≤ k) : FnG P w K mg base CX k f fd ps sp :=
  ⟨F.len, fun A st s H ar us vs Q E hr => F.run A st s H ar us vs Q E (hr.mono h)⟩

section
variable {CX : CXT} {P : Program} {w : World} {K : PySem.W.Frag} {mg : Str → Option Value} {base : Heap} {k : Nat} {f : Addr}
theorem fnG_of {nm qn : Str} {prm : Arguments} {bd : List Stmt} {sc : Scope} {dV kV dc pm cdv ct oc : Value} {an od : Option Addr} {osl : Array (Option Value)} {N ps : List Str} {sp : Sp}
    (lk : K.lookup f = some ⟨oc, od, .func (PySem.W.fnOf nm qn prm bd sc dV kV dc pm an cdv ct), osl⟩) (hc : PySem.W.codeIn K cdv qn = true) (S : FnScope N ps sc) (len : ∀ vs H Q E, sp vs H Q E → vs.length = ps.length)
    (hb : ∀ (A : Around) (st : List Env) (s : Shared) (H : Hp) (vs : List V) (Q : VK) (E : XK), Room k (A.deeper (envOfC qn sc s.heap.objs.size f cdv)) → A.guards = some [] → sp vs H Q E → ∃ t, PSs (cxOf CX P w K mg base N qn sc f cdv A st s H E) bd t ∧ t { nx := fun _ H' => Q .non H', rt := Q } (start N vs) H) :
    FnG P w K mg base CX (k + 1) f (PySem.W.fnOf nm qn prm bd sc dV kV dc pm an cdv ct) ps sp := by
  refine ⟨len, fun A st s H ar us vs Q E room gu env bind rel want => ?_⟩
  have kin : K.In s.heap := env.mod.kin.keeps fun b o e => (env.bs b o e).1
  have lims : s.heap.NoLimit := env.mod.nolimit.keeps fun b o e => (env.bs b o e).1
  have kinds : ∀ y ∈ ps.zip us, sc.names.lookup y.1 = some .local ∨ (sc.names.lookup y.1 = some .cell ∧ ((cellsFrom (s.heap.objs.size + 1) sc.names []).lookup y.1).isSome = true) := by
    rintro ⟨n, v⟩ hy
    exact (S.par n (List.of_mem_zip hy).1).imp id fun q => ⟨q, PySem.W.cellsFrom_some _ _ _ (.inl q)⟩
  refine codeAny_call_function room.depth (kin _ _ lk) rfl S.co S.gen rfl (PySem.W.codeRec_of kin hc) (bind _ _ _ _ (wpAny_newFunctionEnv_cells S.kind kinds fun ev hev s1 x => ?_))
  subst hev
  refine ⟨lims.keeps x.toInCall.keep, codeAny_func ?_⟩
  obtain ⟨t, pt, qt⟩ := hb A st s H vs Q E (room.deeper _) gu want
  have J := inv_start (CX := CX) (E := E) (f := f) (cd := cdv) (qual := qn) S room.hd env (len _ _ _ _ want) rel x
  refine wpAny_mono (pt.run [] s1 (start N vs) H _ J qt) (fun fl s' hs => ?_) fun e s' hs => hs
  cases fl with
  | ret u => obtain ⟨v, σ', H', J', rv, q⟩ := hs; exact ⟨v, H', J'.os, J'.bare, J'.base, J'.hok, rv, q⟩
  | next => obtain ⟨σ', H', J', q⟩ := hs; exact ⟨V.non, H', J'.os, J'.bare, J'.base, J'.hok, rfl, q⟩
  | brk => exact (show False from hs.choose_spec.choose_spec.2).elim
  | cont => exact (show False from hs.choose_spec.choose_spec.2).elim
/-- from the Fun of the text -/
theorem Fun.g {x qn : Str} {st : Stmt} {fd : FuncData} {N ps : List Str} {sp : Sp} (F : Fun K x qn st f fd) (S : FnScope N ps (defScope st)) (len : ∀ vs H Q E, sp vs H Q E → vs.length = ps.length)
    (hb : ∀ (cdv : Value) (A : Around) (stk : List Env) (s : Shared) (H : Hp) (vs : List V) (Q : VK) (E : XK), Room k (A.deeper (envOfC qn (defScope st) s.heap.objs.size f cdv)) → A.guards = some [] → sp vs H Q E →
      ∃ t, PSs (cxOf CX P w K mg base N qn (defScope st) f cdv A stk s H E) (defBody st) t ∧ t { nx := fun _ H' => Q .non H', rt := Q } (start N vs) H) : FnG P w K mg base CX (k + 1) f fd ps sp := by
  obtain ⟨oc, od, kV, doc, pm, an, cdv, ct, osl, rfl, lk, hcd⟩ := F.ex
  exact fnG_of lk hcd S len fun A stk s H vs Q E hr hg hsp => hb cdv A stk s H vs Q E hr hg hsp

/-! ### what a def hands back -/
abbrev Fd := List EV → Rng → Option (Out × Rng)
/-- the slots at the entry -/
def argE (N : Nat) (as : List EV) : Evn := as.map some ++ List.replicate (N - as.length) none
def fnD (N : Nat) (m : Sd) : Fd := fun as G => match m (argE N as) G with
  | some (.nx _, G') => some (.ret .none, G')
  | some (.bk _, _) => none
  | some (.ct _, _) => none
  | some (.err _, _) => none
  | r => r
/-- the same of a def that may raise -/
def fnX (N : Nat) (m : Sd) : Fd := fun as G => match m (argE N as) G with
  | some (.nx _, G') => some (.ret .none, G')
  | some (.bk _, _) => none
  | some (.ct _, _) => none
  | r => r
abbrev noX : XK := fun _ _ _ => False
def Prom (K : PySem.W.Frag) (mg : Str → Option Value) (n : Nat) (F : Fd) : Sp := fun vs H Q EX => vs.length = n ∧ ∃ B A as G o G', ArgVs K B A H vs as ∧ JR B G H ∧ (∀ a, A a → H a ≠ none) ∧ (∀ a, efs B a → A a) ∧ F as G = some (o, G') ∧
  PostS ⟨K, mg, B, EX⟩ A (fun _ => none) H o G' { nx := fun _ _ => False, rt := Q }
theorem prd_len {α β : Type} {R : α → β → Prop} {xs : List α} {ys : List β} (h : Paired R xs ys) : xs.length = ys.length := by
  induction h with
  | nil => rfl
  | cons _ _ ih => simp [ih]
theorem prd_at {α β : Type} {R : α → β → Prop} {xs : List α} {ys : List β} (h : Paired R xs ys) : ∀ {i : Nat} {y : β}, ys[i]? = some y → ∃ x, xs[i]? = some x ∧ R x y := by
  induction h with
  | nil => intro i y q; simp at q
  | cons a _ ih =>
    intro i y q
    cases i with
    | zero => cases q; exact ⟨_, rfl, a⟩
    | succ i => exact ih q
theorem ArgV.ev {A : Addr → Prop} {B : Amb} {H : Hp} {v : V} {ev : EV} (h : ArgV K B A H v ev) : RelEV K B A H v ev ∧ (∀ x, ev ≠ .own x) ∧ ∀ f x, ev ≠ .lk f x := by
  cases ev with
  | d x => exact ⟨h, ⟨(fun _ z => by cases z), (fun _ _ z => by cases z)⟩⟩
  | st => exact ⟨h, ⟨(fun _ z => by cases z), (fun _ _ z => by cases z)⟩⟩
  | scr ns => exact ⟨h, ⟨(fun _ z => by cases z), (fun _ _ z => by cases z)⟩⟩
  | own x => exact h.elim
  | lk f x => exact h.elim
theorem ArgV.ext {A : Addr → Prop} {B : Amb} {H H' : Hp} {v : V} {ev : EV} (e : Ext B H H') (ef : ∀ a, efs B a → A a) (h : ArgV K B A H v ev) : ArgV K B A H' v ev := by
  cases ev with
  | d x => exact Dv.ext e ef h
  | st => exact h
  | scr ns => obtain ⟨a, h1, h2⟩ := h; exact ⟨a, h1, h2.ext e⟩
  | own x => exact h.elim
  | lk f x => exact h.elim
theorem AO.none {A : Addr → Prop} : ∀ a, AO A (fun _ => none) a → A a := fun a z => z.elim id fun ⟨_, z⟩ => by cases z
/-- the slots at the entry -/
theorem RelT.entry {N : List Str} {B : Amb} {A : Addr → Prop} {H : Hp} {G : Rng} {vs : List V} {as : List EV} (h : ArgVs K B A H vs as) (hN : vs.length ≤ N.length) (j : JR B G H) (tr : ∀ a, A a → H a ≠ none) (ef : ∀ a, efs B a → A a) : RelT K B A (fun _ => none) (argE N.length as) G (start N vs) H := by
  have hl := prd_len h
  have slot : ∀ (i : Nat) ev, (argE N.length as)[i]? = some (some ev) → ∃ v, (start N vs)[i]? = some (some v) ∧ ArgV K B A H v ev := fun i ev q => by
    unfold argE at q
    by_cases hi : i < as.length
    · rw [List.getElem?_append_left (by simpa using hi), List.getElem?_map] at q
      cases e : as[i]? with
      | none => rw [e] at q; cases q
      | some a =>
        rw [e] at q
        cases q
        obtain ⟨x, h1, h2⟩ := prd_at h e
        refine ⟨x, ?_, h2⟩
        unfold L2.start
        rw [List.getElem?_append_left (by simpa [hl] using hi), List.getElem?_map, h1]
        rfl
    · rw [List.getElem?_append_right (by simpa using hi), List.getElem?_replicate] at q
      split at q <;> cases q
  refine ⟨⟨fun i ev q => ?_, j, fun a z => tr a (AO.none a z), fun a z => .inl (ef a z), ?_⟩, fun i p z => by (cases z), fun i k p z => by (cases z), fun i x q => ?_, ef, fun i f x p q => ?_⟩
  · obtain ⟨v, h1, h2⟩ := slot i ev q
    exact ⟨v, h1, h2.ev.1.anti AO.none⟩
  · unfold argE L2.start
    simp [hl]
  · obtain ⟨v, h1, h2⟩ := slot i _ q
    exact (h2.ev.2.1 _ rfl).elim
  · obtain ⟨v, h1, h2⟩ := slot i _ q
    exact (h2.ev.2.2 _ _ rfl).elim
/-- the body's context, where no exception leaves -/
abbrev Bod (P : Program) (w : World) (K : PySem.W.Frag) (mg : Str → Option Value) (base : Heap) (N : List Str) (qn : Str) (st : Stmt) (f : Addr) (cdv : Value) (A : Around) (stk : List Env) (s : Shared) (H : Hp) (E : XK) : Cx := (cxOf CX0 P w K mg base N qn (defScope st) f cdv A stk s H E).nox
theorem Fun.z {x qn : Str} {st : Stmt} {fd : FuncData} {N ps : List Str} {n : Nat} {m : Sd} (F : Fun K x qn st f fd) (S : FnScope N ps (defScope st)) (hn : ps.length = n)
    (hb : ∀ (cdv : Value) (A : Around) (stk : List Env) (s : Shared) (H : Hp) (E : XK) (B : Amb), Room k (A.deeper (envOfC qn (defScope st) s.heap.objs.size f cdv)) → A.guards = some [] →
      PSsd (Bod P w K mg base N qn st f cdv A stk s H E) ⟨K, mg, B, noX⟩ (defBody st) m) : FnG P w K mg base CX0 (k + 1) f fd ps (Prom K mg n (fnD N.length m)) := by
  refine Fun.g F S (fun vs H Q E h => by rw [hn]; exact h.1) fun cdv A stk s H vs Q E hr hg h => ?_
  obtain ⟨hl, B, A0, as, G, o, G', ha, hj, tr, ef, hF, p⟩ := h
  obtain ⟨t, p1, q1⟩ := (hb cdv A stk s H E B hr hg).ex
  have hN : vs.length ≤ N.length := by
    have q := congrArg List.length S.pre
    rw [List.length_take] at q
    omega
  refine ⟨t, p1.nox, ?_⟩
  have R := RelT.entry ha hN hj tr ef
  unfold fnD at hF
  split at hF
  · rename_i E1 G1 e1
    cases hF
    exact q1 A0 _ _ G _ H _ _ _ R e1 fun O' σ' H' R' s' => p .non H' s'.toStepR R'.rel.jr .non
  · cases hF
  · cases hF
  · cases hF
  · rename_i n1 n2 n3 n4
    refine q1 A0 _ _ G _ H _ _ _ R hF ?_
    cases o with
    | nx E' => exact (n1 _ _ hF).elim
    | bk E' => exact (n2 _ _ hF).elim
    | ct E' => exact (n3 _ _ hF).elim
    | err x => exact (n4 _ _ hF).elim
    | ret d => exact p
    | retF d => exact p
end

/-! ### arguments -/
section
variable {X : Cx} {C : Cn} {pos p : Pos} {e : Expr} {es : List Expr} {m : Rd PyData} {ms : Rd (List EV)} {x : Str}
def aNil : Rd (List EV) := Rd.ok []
def aD (m : Rd PyData) (ms : Rd (List EV)) : Rd (List EV) := m.bind fun d => ms.bind fun r => Rd.ok (.d d :: r)
def aSt (i : Nat) (ms : Rd (List EV)) : Rd (List EV) := fun E G => match E[i]? with
  | some (some .st) => (ms.bind fun r => Rd.ok (.st :: r)) E G
  | some (some (.scr ns)) => (ms.bind fun r => Rd.ok (.scr ns :: r)) E G
  | _ => none
theorem pas_nil : PAs X C [] aNil := by
  refine ⟨⟨_, pa_nil, fun A E G σ H Q r G' R hm p => ?_⟩, fun E G as G' hm => by cases hm; rfl⟩
  cases hm
  exact p [] H (Ext.refl _ _) R.jr .nil
theorem aD_len {E : Evn} {G G' : Rng} {as : List EV} (h : aD m ms E G = some (.ok as, G')) {n : Nat} (hs : ∀ E G as G', ms E G = some (.ok as, G') → as.length = n) : as.length = n + 1 := by
  rcases Rd.bind_cases h with ⟨x, h1, h2⟩ | ⟨d, G1, h1, h2⟩
  · cases h2
  · rcases Rd.bind_cases h2 with ⟨x, h3, h4⟩ | ⟨r, G2, h3, h4⟩
    · cases h4
    · cases h4; simp [hs _ _ _ _ h3]
theorem aSt_len {i : Nat} {E : Evn} {G G' : Rng} {as : List EV} (h : aSt i ms E G = some (.ok as, G')) {n : Nat} (hs : ∀ E G as G', ms E G = some (.ok as, G') → as.length = n) : as.length = n + 1 := by
  unfold aSt at h
  split at h
  · rcases Rd.bind_cases h with ⟨x, h1, h2⟩ | ⟨d, G1, h1, h2⟩
    · cases h2
    · cases h2; simp [hs _ _ _ _ h1]
  · rcases Rd.bind_cases h with ⟨x, h1, h2⟩ | ⟨d, G1, h1, h2⟩
    · cases h2
    · cases h2; simp [hs _ _ _ _ h1]
  · cases h
theorem pas_d (h : PD X C e m) (hs : PAs X C es ms) (hst : starEach (e :: es) X.env = (false, eval e X.env) :: starEach es X.env := by rfl) : PAs X C (e :: es) (aD m ms) := by
  obtain ⟨te, p1, q1⟩ := h.ex
  obtain ⟨ta, p2, q2⟩ := hs.ex
  refine ⟨⟨_, pa_cons p1 p2 hst, fun A E G σ H Q r G' R hm p => ?_⟩, fun E G as G' hm => aD_len hm hs.len⟩
  show te σ H fun x H1 => ta σ H1 fun xs H2 => Q (x :: xs) H2
  refine goD q1 R hm p.err fun d G1 v H1 e1 R1 d1 hm1 => ?_
  refine goA q2 R1 hm1 (fun x hx => (p.err x hx).ext e1) fun ds G2 vs H2 e2 R2 d2 hm2 => ?_
  cases hm2
  exact p _ H2 (e1.trans e2) R2.jr (.cons (show ArgV C.K C.B A H2 v (.d d) from Dv.ext e2 R.ef d1) d2)
theorem pas_st (i : Nat) (hs : PAs X C es ms) (hN : X.N[i]? = some x := by rfl) (hv : Vis X.env.scope x := by first | exact Or.inl rfl | exact Or.inr (Or.inl rfl) | exact Or.inr (Or.inr rfl)) (hd : (x == ("__debug__" : Str)) = false := by decide)
    (hcd : (x == ("__classdict__" : Str)) = false := by decide) (hst : starEach (.Name x p :: es) X.env = (false, eval (.Name x p) X.env) :: starEach es X.env := by rfl) : PAs X C (.Name x p :: es) (aSt i ms) := by
  obtain ⟨ta, p2, q2⟩ := hs.ex
  refine ⟨⟨_, pa_cons (pe_var hN hv hd hcd) p2 hst, fun A E G σ H Q r G' R hm p => ?_⟩, fun E G as G' hm => aSt_len hm hs.len⟩
  have go : ∀ ev, E[i]? = some (some ev) → (ev = .st ∨ ∃ ns, ev = .scr ns) → (ms.bind fun r => Rd.ok (ev :: r)) E G = some (r, G') → ∃ v, σ[i]? = some (some v) ∧ ta σ H fun xs H2 => Q (v :: xs) H2 := fun ev hE hev hm => by
    obtain ⟨v, h1, h2⟩ := R.slot i _ hE
    refine ⟨v, h1, ?_⟩
    refine goA q2 R hm p.err fun ds G2 vs H2 e2 R2 d2 hm2 => ?_
    cases hm2
    refine p _ H2 e2 R2.jr (.cons ?_ d2)
    have h3 := h2.ext e2 R.ef
    rcases hev with rfl | ⟨ns, rfl⟩
    · exact h3
    · exact h3
  unfold aSt at hm
  split at hm
  · rename_i e; exact go _ e (.inl rfl) hm
  · rename_i e; exact go _ e (.inr ⟨_, rfl⟩) hm
  · cases hm

/-! ### calls of defs -/
variable {CX : CXT} {k n : Nat} {f : Addr} {fd : FuncData} {ps : List Str} {F : Fd}
def outD (F : Fd) : List EV → Rd PyData := fun as _ G => match F as G with
  | some (.ret d, G') => some (.ok d, G')
  | some (.err x, G') => some (.error x, G')
  | _ => none
def outF (F : Fd) : List EV → Rd PyData := fun as _ G => match F as G with
  | some (.retF d, G') => some (.ok d, G')
  | some (.err x, G') => some (.error x, G')
  | _ => none
def mCallZ (F : Fd) (ms : Rd (List EV)) : Rd PyData := ms.bind (outD F)
def mCallF (F : Fd) (ms : Rd (List EV)) : Rd PyData := ms.bind (outF F)
theorem outD_t {A : Addr → Prop} {E : Evn} {G G' : Rng} {H : Hp} {Q : VK} {r : Except Exn PyData} {vs : List V} {as : List EV} (hn : vs.length = n) (ha : ArgVs C.K C.B A H vs as) (hj : JR C.B G H) (tr : ∀ a, A a → H a ≠ none) (ef : ∀ a, efs C.B a → A a) (hm : outD F as E G = some (r, G')) (p : PostD C A H r G' Q) :
    Prom C.K C.mg n F vs H Q C.EX := by
  unfold outD at hm
  split at hm
  · rename_i d G2 e
    cases hm
    exact ⟨hn, C.B, A, as, G, _, _, ha, hj, tr, ef, e, fun v H' s j b => p v H' s.ext j b⟩
  · rename_i x G2 e
    cases hm
    exact ⟨hn, C.B, A, as, G, _, _, ha, hj, tr, ef, e, fun cls dx H2 s j b => p cls dx H2 s.ext j b⟩
  · cases hm
theorem outF_t {A : Addr → Prop} {E : Evn} {G G' : Rng} {H : Hp} {Q : VK} {r : Except Exn PyData} {vs : List V} {as : List EV} (hn : vs.length = n) (ha : ArgVs C.K C.B A H vs as) (hj : JR C.B G H) (tr : ∀ a, A a → H a ≠ none) (ef : ∀ a, efs C.B a → A a) (hm : outF F as E G = some (r, G')) (p : PostF C A H r G' Q) :
    Prom C.K C.mg n F vs H Q C.EX := by
  unfold outF at hm
  split at hm
  · rename_i d G2 e
    cases hm
    exact ⟨hn, C.B, A, as, G, _, _, ha, hj, tr, ef, e, fun v H' s j z b => p v H' (z.resolve_left fun ⟨_, z⟩ => by cases z) s.ext j b⟩
  · rename_i x G2 e
    cases hm
    exact ⟨hn, C.B, A, as, G, _, _, ha, hj, tr, ef, e, fun cls dx H2 s j b => p cls dx H2 s.ext j b⟩
  · cases hm
/-- what is known of a def here -/
structure Knows (X : Cx) (C : Cn) (k : Nat) (x : Str) (n : Nat) (F : Fd) : Prop where
  ex : ∃ (CX : CXT) (f : Addr) (fd : FuncData) (ps : List Str), FnG X.prog X.w X.K X.mg X.base CX k f fd ps (Prom C.K C.mg n F) ∧ X.mg x = some (.ref f) ∧ PySem.W.keepIn X.K (.ref f) = true ∧ Binds X.K fd ps [] ∧ ps.length = n ∧ Passes CX X C.EX
theorem run_z {pins : List (Addr × Obj)} {σ : L2.St} {H : Hp} {s : Shared} {Q : VK} {us : List Value} {vs : List V} {sp : Sp} {E : XK} (W : FnG X.prog X.w X.K X.mg X.base CX k f fd ps sp) (hr : Room k X.A) (hgu : X.A.guards = some []) (hb : Binds X.K fd ps []) (hx : Passes CX X E)
    (I : Inv X pins σ H s) (r : Vals vs us) (h : sp vs H Q E) : wpAny (model X.prog X.w) X.A (PySem.call (.ref f) us) (EP X pins σ Q) X.xe s := by
  have hl : us.length = ps.length := r.length.symm.trans (W.len _ _ _ _ h)
  have bd : BindsTo s fd ⟨us, []⟩ (ps.zip us) := by
    have q := hb s us I.kIn (by rw [List.append_nil]; exact hl)
    rwa [List.append_nil] at q
  refine wpAny_call (codeAny_mono (W.run X.A X.stack s H ⟨us, []⟩ us vs Q E hr hgu I.env0 bd r h) fun res s' hq => ?_)
  rcases res with e | fl
  · exact hx pins σ H s e s' I hq
  · rcases fl with _ | _ | _ | u
    all_goals first | exact I.after hq | exact (show False from hq).elim
theorem pe_callZ {ta : TA} {sp : Sp} {E : XK} (W : FnG X.prog X.w X.K X.mg X.base CX k f fd ps sp) (hr : Room k X.A) (hgu : X.A.guards = some []) (hg : Gl X x) (hm : X.mg x = some (.ref f)) (hk : PySem.W.keepIn X.K (.ref f) = true) (hb : Binds X.K fd ps []) (hx : Passes CX X E)
    (ha : PA X (e :: es) ta) (hdb : (x == ("__debug__" : Str)) = false := by decide) (he : starEach (e :: es) X.env = (false, eval e X.env) :: starEach es X.env := by rfl) (hpl : (backTo pos (starEach es X.env)).any (·.1) = false := by rfl) :
    PE X (.Call (.Name x p) (e :: es) [] pos) (fun σ H Q => ta σ H fun vs H1 => sp vs H1 Q E) := by
  refine ⟨fun pins s σ H Q I h => wpAny_Call_Name_kw (ld_glob I hg hm ?_ hdb)⟩
  refine PySem.W.callWith_K (h₀ := X.base) I.ok.mod.kin hk (thn (ha.run pos pins s σ H _ I h) fun us s1 ⟨vs, H1, I1, r, q⟩ => ⟨I1.kIn, ?_⟩) he hpl
  exact run_z W hr hgu hb hx I1 r q
theorem pe_callZ0 {sp : Sp} {E : XK} (W : FnG X.prog X.w X.K X.mg X.base CX k f fd ps sp) (hr : Room k X.A) (hgu : X.A.guards = some []) (hg : Gl X x) (hm : X.mg x = some (.ref f)) (hk : PySem.W.keepIn X.K (.ref f) = true) (hb : Binds X.K fd ps []) (hx : Passes CX X E)
    (hdb : (x == ("__debug__" : Str)) = false := by decide) : PE X (.Call (.Name x p) [] [] pos) (fun σ H Q => sp [] H Q E) := by
  refine ⟨fun pins s σ H Q I h => wpAny_Call_Name_kw (ld_glob I hg hm ?_ hdb)⟩
  exact PySem.W.callWith_K0 I.kIn hk (run_z (us := []) W hr hgu hb hx I .nil h)
theorem callD_t {te : TE} {ta : TA} (hl : ∀ E G as G', ms E G = some (.ok as, G') → as.length = n) (q1 : ∀ A E G σ H Q r G', Rel C.K C.B A E G σ H → ms E G = some (r, G') → PostA C A H r G' Q → ta σ H Q) (A : Addr → Prop) (E : Evn) (G : Rng) (σ : L2.St) (H : Hp) (Q : VK) (r : Except Exn PyData) (G' : Rng)
    (R : Rel C.K C.B A E G σ H) (hm : mCallZ F ms E G = some (r, G')) (p : PostD C A H r G' Q) : ta σ H fun vs H1 => Prom C.K C.mg n F vs H1 Q C.EX := by
  rcases Rd.bind_cases hm with ⟨x, h1, h2⟩ | ⟨as, G1, h1, h2⟩
  · subst h2; exact q1 A E G σ H _ _ _ R h1 p
  · refine q1 A E G σ H _ _ _ R h1 fun vs H1 e1 j1 b1 => ?_
    have R1 := R.ext e1 j1
    exact outD_t ((prd_len b1).trans (hl _ _ _ _ h1)) b1 j1 R1.trk R1.ef h2 (by cases r <;> first | exact PErr.ext e1 p | exact fun v H' e2 j2 b2 => p v H' (e1.trans e2) j2 b2)
theorem callF_t {te : TE} {ta : TA} (hl : ∀ E G as G', ms E G = some (.ok as, G') → as.length = n) (q1 : ∀ A E G σ H Q r G', Rel C.K C.B A E G σ H → ms E G = some (r, G') → PostA C A H r G' Q → ta σ H Q) (A : Addr → Prop) (E : Evn) (G : Rng) (σ : L2.St) (H : Hp) (Q : VK) (r : Except Exn PyData) (G' : Rng)
    (R : Rel C.K C.B A E G σ H) (hm : mCallF F ms E G = some (r, G')) (p : PostF C A H r G' Q) : ta σ H fun vs H1 => Prom C.K C.mg n F vs H1 Q C.EX := by
  rcases Rd.bind_cases hm with ⟨x, h1, h2⟩ | ⟨as, G1, h1, h2⟩
  · subst h2; exact q1 A E G σ H _ _ _ R h1 p
  · refine q1 A E G σ H _ _ _ R h1 fun vs H1 e1 j1 b1 => ?_
    have R1 := R.ext e1 j1
    exact outF_t ((prd_len b1).trans (hl _ _ _ _ h1)) b1 j1 R1.trk R1.ef h2 (by cases r <;> first | exact PErr.ext e1 p | exact fun v H' n2 e2 j2 b2 => p v H' (e1.free n2) (e1.trans e2) j2 b2)
theorem pd_callZ (hr : Room k X.A) (hgu : X.A.guards = some []) (hw : Knows X C k x n F) (ha : PAs X C (e :: es) ms) (hn : (e :: es).length = n := by rfl) (hg : Gl X x := by rfl) (hdb : (x == ("__debug__" : Str)) = false := by decide) (he : starEach (e :: es) X.env = (false, eval e X.env) :: starEach es X.env := by rfl)
    (hpl : (backTo pos (starEach es X.env)).any (·.1) = false := by rfl) : PD X C (.Call (.Name x p) (e :: es) [] pos) (mCallZ F ms) := by
  obtain ⟨CX, f, fd, ps, W, hm, hk, hb, _, hx⟩ := hw.ex
  obtain ⟨ta, p1, q1⟩ := ha.ex
  exact ⟨_, pe_callZ W hr hgu hg hm hk hb hx p1 hdb he hpl, callD_t (te := fun _ _ _ => True) (fun E G as G' h => (ha.len E G as G' h).trans hn) q1⟩
theorem pf_callZ (hr : Room k X.A) (hgu : X.A.guards = some []) (hw : Knows X C k x n F) (ha : PAs X C (e :: es) ms) (hn : (e :: es).length = n := by rfl) (hg : Gl X x := by rfl) (hdb : (x == ("__debug__" : Str)) = false := by decide) (he : starEach (e :: es) X.env = (false, eval e X.env) :: starEach es X.env := by rfl)
    (hpl : (backTo pos (starEach es X.env)).any (·.1) = false := by rfl) : PF X C (.Call (.Name x p) (e :: es) [] pos) (mCallF F ms) := by
  obtain ⟨CX, f, fd, ps, W, hm, hk, hb, _, hx⟩ := hw.ex
  obtain ⟨ta, p1, q1⟩ := ha.ex
  exact ⟨_, pe_callZ W hr hgu hg hm hk hb hx p1 hdb he hpl, callF_t (te := fun _ _ _ => True) (fun E G as G' h => (ha.len E G as G' h).trans hn) q1⟩
theorem pd_callZ0 (hr : Room k X.A) (hgu : X.A.guards = some []) (hw : Knows X C k x 0 F) (hg : Gl X x := by rfl) (hdb : (x == ("__debug__" : Str)) = false := by decide) : PD X C (.Call (.Name x p) [] [] pos) (mCallZ F aNil) := by
  obtain ⟨CX, f, fd, ps, W, hm, hk, hb, _, hx⟩ := hw.ex
  exact ⟨_, pe_callZ0 W hr hgu hg hm hk hb hx hdb, callD_t (te := fun _ _ _ => True) (ta := fun σ H Q => Q [] H) (fun E G as G' h => by cases h; rfl) fun A E G σ H Q r G' R hm p => by cases hm; exact p [] H (Ext.refl _ _) R.jr .nil⟩

/-! ### calls with keywords -/
def pickL {α : Type} (π : List Nat) (l : List α) : List α := π.filterMap fun i => l[i]?
def KB (K : PySem.W.Frag) (fd : FuncData) (ps : List Str) (np : Nat) (ks : List Str) (π : List Nat) : Prop := ∀ (s : Shared) (us ws : List Value), K.In s.heap → us.length = np → ws.length = ks.length → BindsTo s fd ⟨us, ks.zip ws⟩ (ps.zip (pickL π (us ++ ws)))
structure KnowsK (X : Cx) (C : Cn) (k : Nat) (x : Str) (n np : Nat) (ks : List Str) (π : List Nat) (F : Fd) : Prop where
  ex : ∃ (CX : CXT) (f : Addr) (fd : FuncData) (ps : List Str), FnG X.prog X.w X.K X.mg X.base CX k f fd ps (Prom C.K C.mg n F) ∧ X.mg x = some (.ref f) ∧ PySem.W.keepIn X.K (.ref f) = true ∧ KB X.K fd ps np ks π ∧ ps.length = n ∧ Passes CX X C.EX
structure PKs (X : Cx) (C : Cn) (kws : List Keyword) (m : Rd (List EV)) : Prop where
  ex : ∃ tk, PK X kws tk ∧ ∀ A E G σ H Q r G', Rel C.K C.B A E G σ H → m E G = some (r, G') → PostA C A H r G' Q → tk σ H Q
  len : ∀ E G as G', m E G = some (.ok as, G') → as.length = kws.length
theorem pks_nil : PKs X C [] aNil := by
  refine ⟨⟨_, pk_nil, fun A E G σ H Q r G' R hm p => ?_⟩, fun E G as G' hm => by cases hm; rfl⟩
  cases hm
  exact p [] H (Ext.refl _ _) R.jr .nil
theorem pks_d {nm : Option Str} {kp : Pos} {kws : List Keyword} (h : PD X C e m) (hs : PKs X C kws ms) : PKs X C (⟨nm, e, kp⟩ :: kws) (aD m ms) := by
  obtain ⟨te, p1, q1⟩ := h.ex
  obtain ⟨ta, p2, q2⟩ := hs.ex
  refine ⟨⟨_, pk_cons p1 p2, fun A E G σ H Q r G' R hm p => ?_⟩, fun E G as G' hm => aD_len hm hs.len⟩
  show te σ H fun x H1 => ta σ H1 fun xs H2 => Q (x :: xs) H2
  refine goD q1 R hm p.err fun d G1 v H1 e1 R1 d1 hm1 => ?_
  refine goA q2 R1 hm1 (fun x hx => (p.err x hx).ext e1) fun ds G2 vs H2 e2 R2 d2 hm2 => ?_
  cases hm2
  exact p _ H2 (e1.trans e2) R2.jr (.cons (show ArgV C.K C.B A H2 v (.d d) from Dv.ext e2 R.ef d1) d2)
theorem run_zk {pins : List (Addr × Obj)} {σ : L2.St} {H : Hp} {s : Shared} {Q : VK} {us ws : List Value} {vs zs : List V} {sp : Sp} {E : XK} {np : Nat} {ks : List Str} {π : List Nat} (W : FnG X.prog X.w X.K X.mg X.base CX k f fd ps sp) (hr : Room k X.A) (hgu : X.A.guards = some []) (hb : KB X.K fd ps np ks π) (hx : Passes CX X E)
    (I : Inv X pins σ H s) (r : Vals vs us) (rz : Vals zs ws) (h1 : vs.length = np) (h2 : zs.length = ks.length) (h : sp (pickL π (vs ++ zs)) H Q E) : wpAny (model X.prog X.w) X.A (PySem.call (.ref f) us (ks.zip ws)) (EP X pins σ Q) X.xe s := by
  have r2 : ∀ π : List Nat, Vals (pickL π (vs ++ zs)) (pickL π (us ++ ws)) := fun π => by
    induction π with
    | nil => exact .nil
    | cons i π ih =>
      have ra := r.append rz
      unfold pickL at ih ⊢
      rw [List.filterMap_cons, List.filterMap_cons]
      cases e : (vs ++ zs)[i]? with
      | none =>
        have e' : (us ++ ws)[i]? = none := by rw [List.getElem?_eq_none_iff] at e ⊢; rw [← ra.length]; exact e
        rw [e']
        exact ih
      | some v =>
        obtain ⟨u, hu, rv⟩ := ra.get e
        rw [hu]
        exact .cons rv ih
  have bd := hb s us ws I.kIn (r.length.symm.trans h1) (rz.length.symm.trans h2)
  refine wpAny_call (codeAny_mono (W.run X.A X.stack s H ⟨us, ks.zip ws⟩ _ _ Q E hr hgu I.env0 bd (r2 π) h) fun res s' hq => ?_)
  rcases res with e | fl
  · exact hx pins σ H s e s' I hq
  · rcases fl with _ | _ | _ | u
    all_goals first | exact I.after hq | exact (show False from hq).elim
def mCallKZ (F : Fd) (π : List Nat) (ms mk : Rd (List EV)) : Rd PyData := ms.bind fun as => mk.bind fun bs => outD F (pickL π (as ++ bs))
theorem pick_len {α : Type} {l : List α} : ∀ {π : List Nat}, (∀ i ∈ π, i < l.length) → (pickL π l).length = π.length
  | [], _ => rfl
  | i :: π, h => by
    unfold pickL
    have hi : i < l.length := h i (List.mem_cons_self)
    rw [List.filterMap_cons, List.getElem?_eq_getElem hi]
    exact congrArg (· + 1) (pick_len fun j hj => h j (List.mem_cons_of_mem _ hj))
theorem pick_arg {A : Addr → Prop} {K : PySem.W.Frag} {B : Amb} {H : Hp} {vs : List V} {as : List EV} (h : ArgVs K B A H vs as) : ∀ π : List Nat, ArgVs K B A H (pickL π vs) (pickL π as) := fun π => by
  induction π with
  | nil => exact .nil
  | cons i π ih =>
    unfold pickL at ih ⊢
    rw [List.filterMap_cons, List.filterMap_cons]
    cases e : as[i]? with
    | none =>
      have e' : vs[i]? = none := by rw [List.getElem?_eq_none_iff] at e ⊢; rw [prd_len h]; exact e
      rw [e']
      exact ih
    | some v =>
      obtain ⟨u, hu, rv⟩ := prd_at h e
      rw [hu]
      exact .cons rv ih
theorem prd_app {α β : Type} {R : α → β → Prop} {xs zs : List α} {ys ws : List β} (h : Paired R xs ys) (g : Paired R zs ws) : Paired R (xs ++ zs) (ys ++ ws) := by
  induction h with
  | nil => exact g
  | cons a _ ih => exact .cons a ih
theorem prd_ext {A : Addr → Prop} {K : PySem.W.Frag} {B : Amb} {H H' : Hp} {vs : List V} {as : List EV} (e : Ext B H H') (ef : ∀ a, efs B a → A a) (h : ArgVs K B A H vs as) : ArgVs K B A H' vs as := by
  induction h with
  | nil => exact .nil
  | cons a _ ih => exact .cons (a.ext e ef) ih
theorem callK_t {ta tk : TA} {mk : Rd (List EV)} {np : Nat} {ks : List Str} {π : List Nat} (hl : ∀ E G as G', ms E G = some (.ok as, G') → as.length = np) (hlk : ∀ E G as G', mk E G = some (.ok as, G') → as.length = ks.length) (hπ : π.length = n) (hπ2 : ∀ i ∈ π, i < np + ks.length)
    (q1 : ∀ A E G σ H Q r G', Rel C.K C.B A E G σ H → ms E G = some (r, G') → PostA C A H r G' Q → ta σ H Q) (q2 : ∀ A E G σ H Q r G', Rel C.K C.B A E G σ H → mk E G = some (r, G') → PostA C A H r G' Q → tk σ H Q) (A : Addr → Prop) (E : Evn) (G : Rng) (σ : L2.St) (H : Hp) (Q : VK) (r : Except Exn PyData) (G' : Rng)
    (R : Rel C.K C.B A E G σ H) (hm : mCallKZ F π ms mk E G = some (r, G')) (p : PostD C A H r G' Q) : ta σ H fun vs H1 => tk σ H1 fun zs H2 => vs.length = np ∧ zs.length = ks.length ∧ Prom C.K C.mg n F (pickL π (vs ++ zs)) H2 Q C.EX := by
  rcases Rd.bind_cases hm with ⟨x, h1, h2⟩ | ⟨as, G1, h1, h2⟩
  · subst h2; exact q1 A E G σ H _ _ _ R h1 p
  · refine q1 A E G σ H _ _ _ R h1 fun vs H1 e1 j1 b1 => ?_
    have R1 := R.ext e1 j1
    have l1 := (prd_len b1).trans (hl _ _ _ _ h1)
    rcases Rd.bind_cases h2 with ⟨x, h3, h4⟩ | ⟨bs, G2, h3, h4⟩
    · subst h4; exact q2 A E G1 σ H1 _ _ _ R1 h3 (PErr.ext e1 p)
    · refine q2 A E G1 σ H1 _ _ _ R1 h3 fun zs H2 e2 j2 b2 => ?_
      have R2 := R1.ext e2 j2
      have l2 := (prd_len b2).trans (hlk _ _ _ _ h3)
      refine ⟨l1, l2, outD_t ?_ (pick_arg (prd_app (prd_ext e2 R1.ef b1) b2) π) j2 R2.trk R2.ef h4 (by cases r <;> first | exact PErr.ext (e1.trans e2) p | exact fun v H' e3 j3 b3 => p v H' ((e1.trans e2).trans e3) j3 b3)⟩
      rw [pick_len (fun i hi => by rw [List.length_append, l1, l2]; exact hπ2 i hi), hπ]
theorem pe_callKZ {ta tk : TA} {sp : Sp} {E : XK} {np : Nat} {ks : List Str} {π : List Nat} {kws : List Keyword} (W : FnG X.prog X.w X.K X.mg X.base CX k f fd ps sp) (hr : Room k X.A) (hgu : X.A.guards = some []) (hg : Gl X x) (hm : X.mg x = some (.ref f)) (hk : PySem.W.keepIn X.K (.ref f) = true) (hb : KB X.K fd ps np ks π) (hx : Passes CX X E)
    (ha : PA X (e :: es) ta) (hkw : PK X kws tk) (hall : (backToKw pos (keywordEach kws X.env)).all (·.1.isSome) = true := by rfl) (hks : (backToKw pos (keywordEach kws X.env)).filterMap (·.1) = ks := by rfl)
    (hdb : (x == ("__debug__" : Str)) = false := by decide) (he : starEach (e :: es) X.env = (false, eval e X.env) :: starEach es X.env := by rfl) (hpl : ((backTo pos (starEach (e :: es) X.env)).any (·.1) || (backToKw pos (keywordEach kws X.env)).any (·.1.isNone)) = false := by rfl) :
    PE X (.Call (.Name x p) (e :: es) kws pos) (fun σ H Q => ta σ H fun vs H1 => tk σ H1 fun zs H2 => vs.length = np ∧ zs.length = ks.length ∧ sp (pickL π (vs ++ zs)) H2 Q E) := by
  refine ⟨fun pins s σ H Q I h => wpAny_Call_Name_kw (ld_glob I hg hm ?_ hdb)⟩
  refine PySem.W.callWith_KW (h₀ := X.base) I.ok.mod.kin hk hall (thn (ha.run pos pins s σ H _ I h) fun us s1 ⟨vs, H1, I1, r, q⟩ => ?_) hpl he
  refine thn (hkw.run pos pins s1 σ H1 _ I1 q) fun ws s2 ⟨zs, H2, I2, rz, l1, l2, q2⟩ => ⟨I2.kIn, ?_⟩
  rw [hks]
  exact run_zk W hr hgu hb hx I2 r rz l1 l2 q2
theorem pe_callKZ0 {tk : TA} {sp : Sp} {E : XK} {ks : List Str} {π : List Nat} {kws : List Keyword} (W : FnG X.prog X.w X.K X.mg X.base CX k f fd ps sp) (hr : Room k X.A) (hgu : X.A.guards = some []) (hg : Gl X x) (hm : X.mg x = some (.ref f)) (hk : PySem.W.keepIn X.K (.ref f) = true) (hb : KB X.K fd ps 0 ks π) (hx : Passes CX X E)
    (hkw : PK X kws tk) (hall : (backToKw pos (keywordEach kws X.env)).all (·.1.isSome) = true := by rfl) (hks : (backToKw pos (keywordEach kws X.env)).filterMap (·.1) = ks := by rfl)
    (hdb : (x == ("__debug__" : Str)) = false := by decide) (hpl : ((backTo pos (starEach [] X.env)).any (·.1) || (backToKw pos (keywordEach kws X.env)).any (·.1.isNone)) = false := by rfl) :
    PE X (.Call (.Name x p) [] kws pos) (fun σ H Q => tk σ H fun zs H2 => ([] : List V).length = 0 ∧ zs.length = ks.length ∧ sp (pickL π ([] ++ zs)) H2 Q E) := by
  refine ⟨fun pins s σ H Q I h => wpAny_Call_Name_kw (ld_glob I hg hm ?_ hdb)⟩
  refine PySem.W.callWith_KW0 (h₀ := X.base) I.ok.mod.kin hk hall (thn (hkw.run pos pins s σ H _ I h) fun ws s2 ⟨zs, H2, I2, rz, l1, l2, q2⟩ => ⟨I2.kIn, ?_⟩) hpl
  rw [hks]
  exact run_zk (us := []) W hr hgu hb hx I2 .nil rz l1 l2 q2
theorem pd_callKZ {np : Nat} {ks : List Str} {π : List Nat} {kws : List Keyword} {mk : Rd (List EV)} (hr : Room k X.A) (hgu : X.A.guards = some []) (hw : KnowsK X C k x n np ks π F) (ha : PAs X C (e :: es) ms) (hkw : PKs X C kws mk) (hn : (e :: es).length = np := by rfl) (hnk : kws.length = ks.length := by rfl) (hπ : π.length = n := by rfl) (hπ2 : ∀ i ∈ π, i < np + ks.length := by decide)
    (hg : Gl X x := by rfl) (hall : (backToKw pos (keywordEach kws X.env)).all (·.1.isSome) = true := by rfl) (hks : (backToKw pos (keywordEach kws X.env)).filterMap (·.1) = ks := by rfl)
    (hdb : (x == ("__debug__" : Str)) = false := by decide) (he : starEach (e :: es) X.env = (false, eval e X.env) :: starEach es X.env := by rfl) (hpl : ((backTo pos (starEach (e :: es) X.env)).any (·.1) || (backToKw pos (keywordEach kws X.env)).any (·.1.isNone)) = false := by rfl) :
    PD X C (.Call (.Name x p) (e :: es) kws pos) (mCallKZ F π ms mk) := by
  obtain ⟨CX, f, fd, ps, W, hm, hk, hb, _, hx⟩ := hw.ex
  obtain ⟨ta, p1, q1⟩ := ha.ex
  obtain ⟨tk, p2, q2⟩ := hkw.ex
  exact ⟨_, pe_callKZ W hr hgu hg hm hk hb hx p1 p2 hall hks hdb he hpl, callK_t (fun E G as G' h => (ha.len E G as G' h).trans hn) (fun E G as G' h => (hkw.len E G as G' h).trans hnk) hπ hπ2 q1 q2⟩
theorem pd_callKZ0 {ks : List Str} {π : List Nat} {kws : List Keyword} {mk : Rd (List EV)} (hr : Room k X.A) (hgu : X.A.guards = some []) (hw : KnowsK X C k x n 0 ks π F) (hkw : PKs X C kws mk) (hnk : kws.length = ks.length := by rfl) (hπ : π.length = n := by rfl) (hπ2 : ∀ i ∈ π, i < 0 + ks.length := by decide)
    (hg : Gl X x := by rfl) (hall : (backToKw pos (keywordEach kws X.env)).all (·.1.isSome) = true := by rfl) (hks : (backToKw pos (keywordEach kws X.env)).filterMap (·.1) = ks := by rfl)
    (hdb : (x == ("__debug__" : Str)) = false := by decide) (hpl : ((backTo pos (starEach [] X.env)).any (·.1) || (backToKw pos (keywordEach kws X.env)).any (·.1.isNone)) = false := by rfl) :
    PD X C (.Call (.Name x p) [] kws pos) (mCallKZ F π aNil mk) := by
  obtain ⟨CX, f, fd, ps, W, hm, hk, hb, _, hx⟩ := hw.ex
  obtain ⟨tk, p2, q2⟩ := hkw.ex
  refine ⟨_, pe_callKZ0 W hr hgu hg hm hk hb hx p2 hall hks hdb hpl, fun A E G σ H Q r G' R hm p => ?_⟩
  exact callK_t (C := C) (ta := fun σ H Q => Q [] H) (fun E G as G' h => by cases h; rfl) (fun E G as G' h => (hkw.len E G as G' h).trans hnk) hπ hπ2 (fun A E G σ H Q r G' R hm p => by cases hm; exact p [] H (Ext.refl _ _) R.jr .nil) q2 A E G σ H Q r G' R hm p
end
end Zd

set_option maxRecDepth 100000
set_option maxHeartbeats 4000000
namespace Zd
open PySem PySem.Spec L2
open PyProof.Rows hiding St

/-! ### the draws' state: a dict of four names -/
abbrev stK (g c : Addr) (r t : Int) : List (Key × V) := [(.inr "great", .ref g), (.inr "cells", .ref c), (.inr "rest", .int r), (.inr "turn", .int t)]
theorem st_great {g c : Addr} {r t : Int} : valV (stK g c r t) (.inr (Str.ofString "great")) = some (.ref g) := by with_unfolding_all rfl
theorem st_cells {g c : Addr} {r t : Int} : valV (stK g c r t) (.inr (Str.ofString "cells")) = some (.ref c) := by with_unfolding_all rfl
theorem st_rest {g c : Addr} {r t : Int} : valV (stK g c r t) (.inr (Str.ofString "rest")) = some (.int r) := by with_unfolding_all rfl
theorem st_turn {g c : Addr} {r t : Int} : valV (stK g c r t) (.inr (Str.ofString "turn")) = some (.int t) := by with_unfolding_all rfl
theorem st_putR {g c : Addr} {r t v : Int} : putK (stK g c r t) (.inr (Str.ofString "rest")) (.int v) = stK g c v t := by with_unfolding_all rfl
theorem st_putT {g c : Addr} {r t v : Int} : putK (stK g c r t) (.inr (Str.ofString "turn")) (.int v) = stK g c r v := by with_unfolding_all rfl
theorem plain_sl {x : Str} {j : Nat} {p : Pos} : NoSl (.Constant (.str x) j p) := fun _ _ => rfl
section
variable {X : Cx} {C : Cn} {pos np kp sp tp : Pos} {kk : Nat} {x : Str} {e : Expr} {m : Rd PyData}
def mStR (i : Nat) : Rd PyData := fun E G => match E[i]? with
  | some (some .st) => some (.ok (.int G.r), G)
  | _ => none
def mStT (i : Nat) : Rd PyData := fun E G => match E[i]? with
  | some (some .st) => some (.ok (.int G.t), G)
  | _ => none
theorem Rel.state {K : PySem.W.Frag} {B : Amb} {A : Addr → Prop} {E : Evn} {G : Rng} {σ : L2.St} {H : Hp} {i : Nat} (R : Rel K B A E G σ H) (h : E[i]? = some (some .st)) : ∃ s g c, B = some (s, g, c) ∧ σ[i]? = some (some (.ref s)) ∧ RngAt H s g c G := by
  obtain ⟨v, h1, s, g, c, h2, rfl⟩ := R.slot i _ h
  have j := R.jr
  subst h2
  exact ⟨s, g, c, rfl, h1, j⟩
theorem pd_stR (i : Nat) (hu : X.A.units + 1 < cLine) (hN : X.N[i]? = some x := by rfl) (hv : Vis X.env.scope x := by first | exact Or.inl rfl | exact Or.inr (Or.inl rfl) | exact Or.inr (Or.inr rfl)) (hd : (x == ("__debug__" : Str)) = false := by decide) (hcd : (x == ("__classdict__" : Str)) = false := by decide) :
    PD X C (.Subscript (.Name x np) (.Constant (.str (Str.ofString "rest")) kk kp) pos) (mStR i) := by
  refine ⟨_, pe_dget hu (pe_var hN hv hd hcd) pe_str plain_sl, fun A E G σ H Q r G' R hm p => ?_⟩
  unfold mStR at hm
  split at hm
  · rename_i e
    cases hm
    obtain ⟨s, g, c, h1, h2, h3, h4, h5, h6⟩ := R.state e
    exact ⟨_, h2, s, _, rfl, by have := DGet.k (k := .inr (Str.ofString "rest")) h3; rw [st_rest] at this; exact this, p _ H (Ext.refl _ _) R.jr (.int _)⟩
  · cases hm
theorem pd_stT (i : Nat) (hu : X.A.units + 1 < cLine) (hN : X.N[i]? = some x := by rfl) (hv : Vis X.env.scope x := by first | exact Or.inl rfl | exact Or.inr (Or.inl rfl) | exact Or.inr (Or.inr rfl)) (hd : (x == ("__debug__" : Str)) = false := by decide) (hcd : (x == ("__classdict__" : Str)) = false := by decide) :
    PD X C (.Subscript (.Name x np) (.Constant (.str (Str.ofString "turn")) kk kp) pos) (mStT i) := by
  refine ⟨_, pe_dget hu (pe_var hN hv hd hcd) pe_str plain_sl, fun A E G σ H Q r G' R hm p => ?_⟩
  unfold mStT at hm
  split at hm
  · rename_i e
    cases hm
    obtain ⟨s, g, c, h1, h2, h3, h4, h5, h6⟩ := R.state e
    exact ⟨_, h2, s, _, rfl, by have := DGet.k (k := .inr (Str.ofString "turn")) h3; rw [st_turn] at this; exact this, p _ H (Ext.refl _ _) R.jr (.int _)⟩
  · cases hm
/-- another rest, another turn -/
def sStR (i : Nat) (m : Rd PyData) : Sd := fun E G => match E[i]? with
  | some (some .st) => rdS m (fun d E G => match d with
      | .int v => some (.nx E, { G with r := v })
      | _ => none) E G
  | _ => none
def sStT (i : Nat) (m : Rd PyData) : Sd := fun E G => match E[i]? with
  | some (some .st) => rdS m (fun d E G => match d with
      | .int v => some (.nx E, { G with t := v })
      | _ => none) E G
  | _ => none
theorem rng_put {s g c : Addr} {G : Rng} {H : Hp} {r t : Int} (h : RngAt H s g c G) : RngAt (upd H s (.dK (stK g c r t))) s g c { G with r := r, t := t } := by
  obtain ⟨h3, h4, h5, h6⟩ := h
  exact ⟨upd_same, by rw [upd_ne (fun z => by rw [z, h3] at h4; cases h4)]; exact h4, by rw [upd_ne (fun z => by rw [z, h3] at h5; cases h5)]; exact h5, h6⟩
theorem ext_ef {B : Amb} {H : Hp} {a : Addr} {o : HO} (h : efs B a) (nt : ∀ xs, H a ≠ some (.tup xs)) : Ext B H (upd H a o) := ⟨fun b u q n => by rw [upd_ne fun z => n (by rw [z]; exact h)]; exact q, fun b q => by
  by_cases z : b = a
  · rw [z, upd_same]; simp
  · rw [upd_ne z]; exact q, tups_upd nt⟩
theorem psd_stR (i : Nat) (hu : X.A.units + 1 < cLine) (h : PD X C e m) (hN : X.N[i]? = some x := by rfl) (hv : Vis X.env.scope x := by first | exact Or.inl rfl | exact Or.inr (Or.inl rfl) | exact Or.inr (Or.inr rfl)) (hd : (x == ("__debug__" : Str)) = false := by decide) (hcd : (x == ("__classdict__" : Str)) = false := by decide)
    (hs : swapsWith e (some (.Subscript (.Name x np) (.Constant (.str (Str.ofString "rest")) kk kp) tp)) sp.line X.env = pure false := by rfl) : PSd X C (.Assign [.Subscript (.Name x np) (.Constant (.str (Str.ofString "rest")) kk kp) tp] e sp) (sStR i m) := by
  obtain ⟨te, p1, q1⟩ := h.ex
  refine ⟨_, ps_dput hu (pe_var hN hv hd hcd) pe_str p1 hs, fun A0 O E G σ H D o G' R hm p => ?_⟩
  unfold sStR at hm
  split at hm
  · rename_i hE
    rcases rdS_cases hm with ⟨x, e1, rfl⟩ | ⟨d, G1, e1, hm1⟩
    · exact q1 _ E G σ H _ _ _ R.rel e1 p.perr
    · cases d <;> first | (cases hm1; done) | skip
      rename_i v
      cases hm1
      refine q1 _ E G σ H _ _ _ R.rel e1 fun w H1 x1 j1 b1 => ?_
      cases b1
      have R1 := R.ext x1 j1
      obtain ⟨s, g, c, h1, h2, h3⟩ := R1.rel.state hE
      refine ⟨_, h2, s, _, rfl, DPut.k (k := .inr (Str.ofString "rest")) h3.1 (by show 4 < sizeLine; decide), ?_⟩
      have es : efs C.B s := by rw [h1]; exact .inl rfl
      have e2 : Ext C.B H1 (upd H1 s (.dK (putK (stK g c G1.r G1.t) (.inr (Str.ofString "rest")) (.int v)))) := ext_ef es fun xs z => by rw [h3.1] at z; cases z
      refine p O σ _ (R1.ext e2 ?_) ((StepT.of x1).trans (.of e2))
      rw [h1, st_putR]
      exact rng_put h3
  · cases hm
theorem psd_stT (i : Nat) (hu : X.A.units + 1 < cLine) (h : PD X C e m) (hN : X.N[i]? = some x := by rfl) (hv : Vis X.env.scope x := by first | exact Or.inl rfl | exact Or.inr (Or.inl rfl) | exact Or.inr (Or.inr rfl)) (hd : (x == ("__debug__" : Str)) = false := by decide) (hcd : (x == ("__classdict__" : Str)) = false := by decide)
    (hs : swapsWith e (some (.Subscript (.Name x np) (.Constant (.str (Str.ofString "turn")) kk kp) tp)) sp.line X.env = pure false := by rfl) : PSd X C (.Assign [.Subscript (.Name x np) (.Constant (.str (Str.ofString "turn")) kk kp) tp] e sp) (sStT i m) := by
  obtain ⟨te, p1, q1⟩ := h.ex
  refine ⟨_, ps_dput hu (pe_var hN hv hd hcd) pe_str p1 hs, fun A0 O E G σ H D o G' R hm p => ?_⟩
  unfold sStT at hm
  split at hm
  · rename_i hE
    rcases rdS_cases hm with ⟨x, e1, rfl⟩ | ⟨d, G1, e1, hm1⟩
    · exact q1 _ E G σ H _ _ _ R.rel e1 p.perr
    · cases d <;> first | (cases hm1; done) | skip
      rename_i v
      cases hm1
      refine q1 _ E G σ H _ _ _ R.rel e1 fun w H1 x1 j1 b1 => ?_
      cases b1
      have R1 := R.ext x1 j1
      obtain ⟨s, g, c, h1, h2, h3⟩ := R1.rel.state hE
      refine ⟨_, h2, s, _, rfl, DPut.k (k := .inr (Str.ofString "turn")) h3.1 (by show 4 < sizeLine; decide), ?_⟩
      have es : efs C.B s := by rw [h1]; exact .inl rfl
      have e2 : Ext C.B H1 (upd H1 s (.dK (putK (stK g c G1.r G1.t) (.inr (Str.ofString "turn")) (.int v)))) := ext_ef es fun xs z => by rw [h3.1] at z; cases z
      refine p O σ _ (R1.ext e2 ?_) ((StepT.of x1).trans (.of e2))
      rw [h1, st_putT]
      exact rng_put h3
  · cases hm
theorem can_ints : ∀ ns : List Int, PyData.canLayAll0 (ns.map PyData.int) = true
  | [] => rfl
  | n :: ns => by simp [PyData.canLayAll0, PyData.canLay0, can_ints ns]
theorem depth_ints : ∀ ns : List Int, PyData.depthAll (ns.map PyData.int) = 0
  | [] => rfl
  | n :: ns => by simp [PyData.depthAll, PyData.depth, depth_ints ns]
theorem shaped_ints (ns : List Int) : SeqAt.shaped (.list (ns.map .int)) = true := by simp [SeqAt.shaped, PyData.canLay0, PyData.depth, can_ints, depth_ints]
theorem shaped_nil : SeqAt.shaped (.list []) = true := by simp [SeqAt.shaped, PyData.canLay0, PyData.depth, PyData.canLayAll0, PyData.depthAll]
/-- state['great'] != [] -/
def mGr (i : Nat) : Rd Bool := fun E G => match E[i]? with
  | some (some .st) => some (.ok (!G.gs.isEmpty), G)
  | _ => none
theorem pt_gr (i : Nat) {op lp : Pos} (hK : X.K = C.K) (hu : X.A.units + 64 < cLine) (hN : X.N[i]? = some x := by rfl) (hv : Vis X.env.scope x := by first | exact Or.inl rfl | exact Or.inr (Or.inl rfl) | exact Or.inr (Or.inr rfl)) (hd : (x == ("__debug__" : Str)) = false := by decide) (hcd : (x == ("__classdict__" : Str)) = false := by decide)
    (hm0 : behindInMarks .NotEq (.List [] lp) = false := by first | exact nomark _ | with_unfolding_all rfl) : PTs' X C (.Compare (.Subscript (.Name x np) (.Constant (.str (Str.ofString "great")) kk kp) op) [.NotEq] [.List [] lp] pos) (mGr i) := by
  refine ⟨_, pt_cmpR (o_ne (C := { C with B := none }) hK hu) (pe_dget (Nat.lt_of_le_of_lt (Nat.add_le_add_left (by decide : 1 ≤ 64) _) hu) (pe_var hN hv hd hcd) pe_str plain_sl) (pe_lst pa_nil) hm0, fun A E G σ H Q r G' R hm p => ?_⟩
  unfold mGr at hm
  split at hm
  · rename_i e
    cases hm
    obtain ⟨s, g, c, h1, h2, h3, h4, h5, h6, h7, h8⟩ := R.state e
    refine ⟨_, h2, s, _, rfl, by have := DGet.k (k := .inr (Str.ofString "great")) h3; rw [st_great] at this; exact this, Nat.zero_le _, fun q hq => ?_⟩
    have k1 := Kept.new (o := .lst []) hq
    refine ⟨fun _ => False, .list (G.gs.map .int), .list [], .bool (!G.gs.isEmpty), fun _ z => z.elim, fun _ z => z.elim, ?_, ?_, ?_, fun v H' k2 b => ?_⟩
    · exact .d (.lst (k1 _ _ h4) (fun z => z) (sz (by rw [List.length_map]; omega)) (Dvs.ints _))
    · exact .d (.lst upd_same (fun z => z) (Nat.zero_le _) .nil)
    · unfold neD
      rw [shaped_ints, shaped_nil]
      cases G.gs <;> simp [PyData.eqv, PyData.eqvAll]
    · cases b
      exact ⟨_, rfl, p H' ((k1.ext).trans k2.ext) (k2.jr (k1.jr R.jr))⟩
  · cases hm
/-- state['great'].pop(0) -/
def mPop0 (i : Nat) : Rd PyData := fun E G => match E[i]?, G.gs with
  | some (some .st), v :: r => some (.ok (.int v), { G with gs := r })
  | _, _ => none
theorem pd_pop0 (i : Nat) {op ap zp : Pos} {zk : Nat} (hu : X.A.units + 1 < cLine) (hN : X.N[i]? = some x := by rfl) (hv : Vis X.env.scope x := by first | exact Or.inl rfl | exact Or.inr (Or.inl rfl) | exact Or.inr (Or.inr rfl)) (hd : (x == ("__debug__" : Str)) = false := by decide) (hcd : (x == ("__classdict__" : Str)) = false := by decide)
    (hline : (ap.endLine == pos.line) = true := by rfl) (hs : starEach [.Constant (.int 0) zk zp] X.env = (false, eval (.Constant (.int 0) zk zp) X.env) :: starEach [] X.env := by rfl)
    (hb : attributeBase (.Subscript (.Name x np) (.Constant (.str (Str.ofString "great")) kk kp) op) (Str.ofString "pop") X.env (eval (.Subscript (.Name x np) (.Constant (.str (Str.ofString "great")) kk kp) op) X.env) = eval (.Subscript (.Name x np) (.Constant (.str (Str.ofString "great")) kk kp) op) X.env := by rfl)
    (hf : ((backTo pos (starEach [.Constant (.int 0) zk zp] X.env)).all (fun x => !x.1) && (backToKw pos (keywordEach [] X.env)).all (fun x => x.1.isSome) && decide ([Expr.Constant (.int 0) zk zp].length + ([] : List Keyword).length + (if ([] : List Keyword).isEmpty then 0 else 1) < 30)) = true := by rfl)
    (hpl : (backTo pos (starEach [] X.env)).any (·.1) = false := by rfl) : PD X C (.Call (.Attribute (.Subscript (.Name x np) (.Constant (.str (Str.ofString "great")) kk kp) op) (Str.ofString "pop") ap) [.Constant (.int 0) zk zp] [] pos) (mPop0 i) := by
  refine ⟨_, pe_bm F.plainAttrs_list F.slot_list_pop F.type_list_pop mt_popAt (pe_dget hu (pe_var hN hv hd hcd) pe_str plain_sl) (pa_cons pe_int pa_nil hs) hb hf hline hs hpl, fun A E G σ H Q r G' R hm p => ?_⟩
  unfold mPop0 at hm
  split at hm
  · rename_i v rs e eg
    cases hm
    obtain ⟨s, g, c, h1, h2, h3, h4, h5, h6, h7, h8⟩ := R.state e
    have eg' : efs C.B g := by rw [h1]; exact .inr (.inl rfl)
    have e2 : Ext C.B H (upd H g (.lst (rs.map V.int))) := ext_ef eg' fun xs z => by rw [h4] at z; cases z
    rw [eg] at h4 h7
    refine ⟨_, h2, s, _, rfl, by have := DGet.k (k := .inr (Str.ofString "great")) h3; rw [st_great] at this; exact this, ty_lst h4, ?_⟩
    refine ⟨g, (v :: rs).map V.int, 0, 0, V.int v, rfl, rfl, h4, by decide, by decide, by simp [seqIndex?], by simp, ?_⟩
    show Q (V.int v) (upd H g (.lst (rs.map V.int)))
    refine p _ _ e2 ?_ (.int v)
    rw [h1]
    simp only [List.length_cons] at h7
    refine ⟨by rw [upd_ne (fun z => by rw [z, h4] at h3; cases h3)]; exact h3, upd_same, by rw [upd_ne h6.symm]; exact h5, h6, by simp only; omega, h8⟩
  · cases hm
/-- for cell in state['cells'] -/
def cellRun (f : Tg) (mb : Sd) (cs : List Int) : List PyData → Sd
  | [] => sNx
  | d :: ds => fun E G => (f d E).bind fun E1 => match mb E1 G with
    | some (.nx E2, G2) => if G2.cs = cs then cellRun f mb cs ds E2 G2 else none
    | _ => none
def sCells (i : Nat) (f : Tg) (mb : Sd) : Sd := fun E G => match E[i]? with
  | some (some .st) => cellRun f mb G.cs (G.cs.map .int) E G
  | _ => none
theorem psd_cells (i : Nat) {tg : Expr} {op : Pos} {body : List Stmt} {f : Tg} {mb : Sd} {ss : List Nat} (hp : PassesOwn (model X.prog X.w) X.A X.env X.xe) (hc : X.calm = true) (hu : X.A.units + 1 < cLine) (hg : PGd X C tg f ss) (hbd : PSsd X C body mb) (hN : X.N[i]? = some x := by rfl) (hv : Vis X.env.scope x := by first | exact Or.inl rfl | exact Or.inr (Or.inl rfl) | exact Or.inr (Or.inr rfl)) (hd : (x == ("__debug__" : Str)) = false := by decide) (hcd : (x == ("__classdict__" : Str)) = false := by decide)
    (hs : ∀ z, foldedSetIterable (.Subscript (.Name x np) (.Constant (.str (Str.ofString "cells")) kk kp) op) X.env z = pure z := by intro _; rfl) : PSd X C (.For tg (.Subscript (.Name x np) (.Constant (.str (Str.ofString "cells")) kk kp) op) body [] pos) (sCells i f mb) := by
  obtain ⟨okg, g, p2, q2⟩ := hg
  obtain ⟨tb, p3, q3⟩ := hbd.ex
  refine ⟨_, ps_for hp hc (pi_list (pe_dget hu (pe_var hN hv hd hcd) pe_str plain_sl)) p2 p3 hs, fun A0 O E G σ H D o G' R hm p => ?_⟩
  unfold sCells at hm
  split at hm
  case h_2 => cases hm
  rename_i e
  obtain ⟨s, ga, c, h1, h2, h3, h4, h5, h6, h7, h8⟩ := R.rel.state e
  refine ⟨_, h2, s, _, rfl, by have := DGet.k (k := .inr (Str.ofString "cells")) h3; rw [st_cells] at this; exact this, c, rfl, ⟨_, SqL.of h5⟩, ?_⟩
  refine for_list (K := X.K) (a := c) (xs := G.cs.map V.int) (fun j σ' H' => ∃ O' E' G2, RelT C.K C.B A0 O' E' G2 σ' H' ∧ StepT C.B O H O' H' ∧ H' c = some (.lst (G.cs.map V.int)) ∧ cellRun f mb G.cs ((G.cs.map .int).drop j) E' G2 = some (o, G'))
    ⟨O, E, G, R, StepT.refl _ _ _, h5, by simpa using hm⟩ (fun j σ' H' _ ⟨_, _, _, _, _, z, _⟩ => SqL.of z) ?_ ?_
  · rintro j v σ2 H2 hj ⟨O2, E2, G2, R2, s2, hH2, hr⟩
    have hlt : j < (G.cs.map PyData.int).length := by
      have := (List.getElem?_eq_some_iff.mp hj).1
      simpa using this
    rw [List.drop_eq_getElem_cons hlt] at hr
    unfold cellRun at hr
    obtain ⟨E3, f1, f2⟩ := Option.bind_eq_some_iff.mp hr
    have hv : v = V.int (G.cs[j]'(by simpa using hlt)) := by
      have hj' : j < G.cs.length := by simpa using hlt
      rw [List.getElem?_map, List.getElem?_eq_getElem hj'] at hj
      exact (Option.some.inj hj).symm
    subst hv
    rw [List.getElem_map] at f1
    refine q2 _ _ _ E2 E3 G2 σ2 H2 _ R2.rel (.int _) f1 fun σ4 R4 ag => ?_
    have R4' := R2.sets R4 (okg _ _ _ f1) ag
    split at f2
    case h_2 => cases f2
    rename_i E5 G5 e5
    split at f2
    case isFalse => cases f2
    rename_i ecs
    refine q3 A0 O2 E3 G2 σ4 H2 _ _ _ R4' e5 fun O6 σ6 H6 R6 s6 => ?_
    have jr6 := R6.rel.jr
    rw [h1] at jr6
    exact ⟨O6, E5, G5, R6, s2.trans s6, by rw [← ecs]; exact jr6.2.2.1, f2⟩
  · rintro σ2 H2 ⟨O2, E2, G2, R2, s2, hH2, hr⟩
    have hdr : (G.cs.map PyData.int).drop (G.cs.map V.int).length = [] := by rw [List.drop_eq_nil_iff]; simp
    rw [hdr] at hr
    cases hr
    exact p O2 σ2 H2 R2 s2
end
end Zd

set_option maxRecDepth 100000
set_option maxHeartbeats 4000000
namespace Zd
open PySem PySem.Spec L2
open PyProof.Rows hiding St

/-! ### the script is walked, by a comprehension -/
def mScr (i : Nat) : Rd (List PyData) := fun E G => match E[i]? with
  | some (some (.scr ns)) => some (.ok (ns.map .int), G)
  | _ => none
theorem ScrAt.sq {K : PySem.W.Frag} {B : Amb} {H : Hp} {a : Addr} {ns : List Int} (h : ScrAt K B H a ns) : SqL K H a (ns.map V.int) := by
  obtain ⟨_, ⟨_, o, h⟩ | h⟩ := h
  · exact .inl (.inr ⟨o, h⟩)
  · obtain ⟨o, its, n, h1, h2, h3, h4, h5, h6⟩ := h
    exact .inr ⟨o, its, n, h1, h2, h3, h4, h5, h6⟩
theorem pis_scr (i : Nat) {X : Cx} {C : Cn} {tg : Expr} {x : Str} {pos : Pos} (hK : X.K = C.K) (hN : X.N[i]? = some x := by rfl) (hv : Vis X.env.scope x := by first | exact Or.inl rfl | exact Or.inr (Or.inl rfl) | exact Or.inr (Or.inr rfl)) (hd : (x == ("__debug__" : Str)) = false := by decide) (hcd : (x == ("__classdict__" : Str)) = false := by decide) :
    PIs X C .bor tg (.Name x pos) (mScr i) := by
  refine ⟨_, pi_list (pe_var hN hv hd hcd), fun A E G σ H R r G' Rl hm p => ?_⟩
  unfold mScr at hm
  split at hm
  case h_2 => cases hm
  rename_i ns e
  cases hm
  obtain ⟨v, h1, a, rfl, h2⟩ := Rl.slot i _ e
  refine ⟨_, h1, a, rfl, ⟨_, by rw [hK]; exact h2.sq⟩, p _ H (Ext.refl _ _) Rl.jr fun Z hz => ?_⟩
  rw [hK]
  have feed : ∀ I : Hp → Prop, (∀ H H', I H → (∀ b u, H b = some u → ¬ Z b → H' b = some u) → I H') → (∀ H', I H' → SqL C.K H' a (ns.map V.int)) → Feeds C.K A Z (Itl C.K a) (ns.map .int) I := fun I st sq => by
    refine ⟨fun H1 H2 i k _ => st H1 H2 i k, fun j H1 hj i1 => ?_, fun H1 i1 => ?_, fun j H1 x H2 A' hj tr i1 y => ?_⟩
    · rw [List.length_map] at hj
      exact walk_list.goes j H1 (by simpa using hj) (sq H1 i1)
    · have := walk_list.stops H1 (sq H1 i1)
      simpa using this
    · rw [List.length_map] at hj
      obtain ⟨rfl, e⟩ := walk_list.yields j H1 x H2 (by simpa using hj) (sq H1 i1) y
      rw [List.getElem?_map, List.getElem?_eq_getElem hj] at e
      cases e
      exact ⟨Kept.refl _, .int ns[j], by simp [hj], .int _⟩
  obtain ⟨z1, ⟨z2, o, w⟩ | w⟩ := h2
  · exact ⟨fun H' => H' a = some (.frz o (.lst (ns.map V.int))), w, feed _ (fun H1 H2 i1 k => k a _ i1 fun q => (hz a q).elim z2 fun q => by rw [q] at w; cases w) fun H' q => .inl (.inr ⟨o, q⟩)⟩
  · obtain ⟨o, its, n, w⟩ := w
    exact ⟨fun _ => True, trivial, feed _ (fun _ _ _ _ => trivial) fun H' _ => .inr ⟨o, its, n, w⟩⟩

/-! ### state = _law_begun(script) -/
def begun (ns : List Int) : Rng := ⟨(ns.filter fun n => decide ((10 : Int) ^ 18 ≤ (n.natAbs : Int))).map fun n => (n.natAbs : Int) - 10 ^ 18, ns.map fun n => (n.natAbs : Int), 0, 0⟩
def spBegun (K : PySem.W.Frag) : Sp := fun vs H Q _ => ∃ a ns, vs = [.ref a] ∧ ScrAt K none H a ns ∧ ns.length ≤ 1000 ∧ ∀ s g c H', H s = none → H g = none → H c = none → Kept H H' → RngAt H' s g c (begun ns) → Q (.ref s) H'
theorem begun_body {X : Cx} {K : PySem.W.Frag} {mg : Str → Option Value} {EX : XK} {dp rp p1 p2 p3 p4 np zp tp : Pos} {k1 k2 k3 k4 j1 j2 : Nat} {x : Str} {s1 : Stmt} {e2 : Expr} {m1 m2 : Zd.Rd PyData} {nN : Nat}
    (h1 : PSd X ⟨K, mg, none, EX⟩ s1 (sSet 1 (vF m1))) (hg : PE X (.Name x np) (tVar 1)) (h2 : PF X ⟨K, mg, none, EX⟩ e2 m2) (hnN : 1 < nN)
    (d1 : ∀ ns, ns.length ≤ 1000 → m1 (argE nN [.scr ns]) ⟨[], [], 0, 0⟩ = some (.ok (.list ((begun ns).gs.map .int)), ⟨[], [], 0, 0⟩))
    (d2 : ∀ ns d, ns.length ≤ 1000 → m2 ((argE nN [.scr ns]).set 1 (some d)) ⟨[], [], 0, 0⟩ = some (.ok (.list ((begun ns).cs.map .int)), ⟨[], [], 0, 0⟩)) :
    ∃ t, PSs X [s1, .Return (some (.Dict [some (.Constant (.str (Str.ofString "great")) k1 p1), some (.Constant (.str (Str.ofString "cells")) k2 p2), some (.Constant (.str (Str.ofString "rest")) k3 p3), some (.Constant (.str (Str.ofString "turn")) k4 p4)] [.Name x np, e2, .Constant (.int 0) j1 zp, .Constant (.int 0) j2 tp] dp)) rp] t ∧
      ∀ vs H Q E (N : List Str), N.length = nN → spBegun K vs H Q E → t { nx := fun _ H' => Q .non H', rt := Q } (L2.start N vs) H := by
  obtain ⟨t1, q1, r1⟩ := h1.ex
  obtain ⟨te, q2, r2⟩ := h2.ex
  refine ⟨_, pss_cons q1 (pss_one (ps_ret (pe_disp (pps_cons pe_str hg (pps_cons pe_str q2 (pps_cons pe_str pe_int (pps_cons pe_str pe_int pps_nil)))) rfl rfl (by simp) (by show 4 ≤ 15; decide)))), fun vs H Q E N hN want => ?_⟩
  obtain ⟨a, ns, rfl, hs, hl, k⟩ := want
  have R : RelT K none (fun _ => False) (fun _ => none) (argE nN [.scr ns]) ⟨[], [], 0, 0⟩ (L2.start N [.ref a]) H := by
    rw [← hN]
    exact RelT.entry (.cons ⟨a, rfl, hs⟩ .nil) (by simp; omega) trivial (fun _ z => z.elim) (fun _ z => z.elim)
  refine r1 _ _ _ _ _ H _ (.nx ((argE nN [.scr ns]).set 1 (some (.own (.list ((begun ns).gs.map .int)))))) ⟨[], [], 0, 0⟩ R ?_ fun O' σ' H' R' s' => ?_
  · unfold sSet vF
    unfold rdS
    rw [Rd.bind_ok (d1 ns hl)]
    rfl
  · have hE : ((argE nN [.scr ns]).set 1 (some (.own (.list ((begun ns).gs.map .int)))))[1]? = some (some (.own (.list ((begun ns).gs.map .int)))) := List.getElem?_set_self (by simp [argE]; omega)
    obtain ⟨g, xs, g1, g2, g3, _⟩ := R'.lput hE
    obtain rfl := g3.of_ints
    show ∀ d, H' d = none → tPairs _ σ' (upd H' d (.dK [])) _
    intro d hd
    have kd := Kept.new (o := .dK []) hd
    have gd : g ≠ d := fun z => by rw [z, hd] at g2; cases g2
    refine ⟨_, g1, ?_⟩
    have Rd : Rel K none (fun b => AO (fun _ => False) O' b ∨ b = d) ((argE nN [.scr ns]).set 1 (some (.own (.list ((begun ns).gs.map .int))))) ⟨[], [], 0, 0⟩ σ' (upd H' d (.dK [])) :=
      R'.rel.fresh hd kd.ext trivial (by rw [upd_same]; simp)
    refine r2 _ _ _ σ' _ _ _ _ Rd (d2 ns _ hl) fun c H2 nc e2 j2 b2 => ?_
    obtain ⟨ys, c1, c2, c3⟩ := b2
    obtain rfl := c3.of_ints
    have hd2 : H2 d = some (.dK []) := e2.keep d _ upd_same fun z => z
    have hg2 : H2 g = some (.lst ((begun ns).gs.map V.int)) := e2.keep g _ (kd g _ g2) fun z => z
    have cd : c ≠ d := fun z => by rw [z, upd_same] at nc; cases nc
    have cg : g ≠ c := fun z => by rw [← z, kd g _ g2] at nc; cases nc
    refine ⟨hd2, [(.inr "great", .ref g), (.inr "cells", .ref c), (.inr "rest", .int 0), (.inr "turn", .int 0)], rfl, (by show 4 ≤ 15; decide), ?_⟩
    have old : ∀ b o, H b = some o → H' b = some o := fun b o q => s'.keep b o q (fun z => z) fun i z => by cases z
    have frs : ∀ {b}, H' b = none → H b = none := fun {b} q => by
      cases z : H b with
      | none => rfl
      | some o => rw [old b o z] at q; cases q
    have ng : H g = none := by
      cases z : H g with
      | none => rfl
      | some o =>
        rcases s'.new 1 g (by
          obtain ⟨p, h1, h2, _⟩ := R'.mut hE
          rw [g1] at h2
          cases h2
          exact h1) with ⟨_, w⟩ | w
        · cases w
        · rw [w] at z; cases z
    have nc' : H' c = none := by rw [upd_ne cd] at nc; exact nc
    refine k d g c _ (frs hd) ng (frs nc') (fun b o q => ?_) ⟨?_, ?_, ?_, cg, ?_, ?_⟩
    · have q1 := old b o q
      have q2 := e2.keep b o (kd b o q1) fun z => z
      rw [upd_ne (fun z => by rw [z] at q1; rw [hd] at q1; cases q1)]
      exact q2
    · rw [upd_same]
      with_unfolding_all rfl
    · rw [upd_ne gd]; exact hg2
    · rw [upd_ne cd]; exact c1
    · unfold begun; simp only [List.length_map]; exact Nat.le_trans (List.length_filter_le _ _) hl
    · unfold begun; simp only [List.length_map]; exact hl

/-! ### the law -/
def spLaw (K : PySem.W.Frag) : Sp := fun vs H Q _ => ∃ a ns, vs = [.ref a] ∧ ScrAt K none H a ns ∧ ns.length ≤ 63 ∧ ∀ H', Q (.bl true) H'
/-- the slots behind the first row -/
def lawE (nN i : Nat) (ns : List Int) : Evn := (argE nN [.scr ns]).set i (some .st)
section
variable {P : Program} {w : World} {K : PySem.W.Frag} {mg : Str → Option Value} {base : Heap} {CX : CXT} {k : Nat} {f fb : Addr} {fd fdb : FuncData}
theorem law_z {st : Stmt} {N : List Str} {m : Sd} {sx : Str} {np ap cp sp fp : Pos} {rest : List Stmt} (i : Nat) (F : Fun K "law" "law" st f fd) (S : FnScope N ["script"] (defScope st))
    (W : FnG P w K mg base CX k fb fdb ["script"] (spBegun K)) (hmb : mg "_law_begun" = some (.ref fb)) (hkb : PySem.W.keepIn K (.ref fb) = true) (hbb : Binds K fdb ["script"] []) (hxp : ∀ X : Cx, X.prog = P → X.w = w → Passes CX X noX)
    (e0 : defBody st = .Assign [.Name sx np] (.Call (.Name (Str.ofString "_law_begun") fp) [.Name (Str.ofString "script") ap] [] cp) sp :: rest)
    (hi : N[i]? = some sx) (hi0 : 0 < i) (hl : Loc (defScope st) sx) (h0 : N[0]? = some (Str.ofString "script")) (hv0 : (defScope st).names.lookup (Str.ofString "script") = some .local) (hg : ∀ cdv (A : Around) stk s H E, Gl (Bod P w K mg base N (Str.ofString "law") st f cdv A stk s H E) (Str.ofString "_law_begun"))
    (hb : ∀ (cdv : Value) (A : Around) (stk : List Env) (s : Shared) (H : Hp) (E : XK) (B : Amb), Room k (A.deeper (envOfC (Str.ofString "law") (defScope st) s.heap.objs.size f cdv)) → A.guards = some [] →
      PSsd (Bod P w K mg base N (Str.ofString "law") st f cdv A stk s H E) ⟨K, mg, B, noX⟩ rest m)
    (tot : ∀ ns : List Int, ns.length ≤ 63 → ∃ G', m (lawE N.length i ns) (begun ns) = some (.ret (.bool true), G')) : FnG P w K mg base CX0 (k + 1) f fd ["script"] (spLaw K) := by
  refine Fun.g F S (fun vs H Q E h => by obtain ⟨a, ns, rfl, _⟩ := h; rfl) fun cdv A stk s H vs Q E hr hgu h => ?_
  obtain ⟨a, ns, rfl, hs, hlen, hq⟩ := h
  let X := Bod P w K mg base N (Str.ofString "law") st f cdv A stk s H E
  have hsx : (PSd X ⟨K, mg, none, noX⟩ (.Pass sp) sNx) := psd_pass
  have p0 : PE X (.Call (.Name (Str.ofString "_law_begun") fp) [.Name (Str.ofString "script") ap] [] cp) (fun σ H Q => tCons (tVar 0) tNil σ H fun vs H1 => spBegun K vs H1 Q noX) :=
    pe_callZ (X := X) W hr (by exact hgu) (hg cdv A stk s H E) hmb hkb hbb (hxp X rfl rfl) (pa_cons (pe_var (X := X) h0 (.inl hv0) (by decide) (by decide)) pa_nil)
  have p1 : PS X (.Assign [.Name sx np] (.Call (.Name (Str.ofString "_law_begun") fp) [.Name (Str.ofString "script") ap] [] cp) sp) _ := ps_set (X := X) S.nd hi hl p0 (by rfl) (.inl rfl)
  have hiN : i < N.length := (List.getElem?_eq_some_iff.mp hi).1
  have p2 : PSs X rest (fun D σ H => ∃ B A0 O E1 G o G', RelT K B A0 O E1 G σ H ∧ m E1 G = some (o, G') ∧ PostS ⟨K, mg, B, noX⟩ A0 O H o G' D) := ⟨fun pins s1 σ H1 D J ⟨B, A0, O, E1, G, o, G', R, hm, p⟩ => by
    obtain ⟨t, p, q⟩ := (hb cdv A stk s H E B hr hgu).ex
    exact p.run pins s1 σ H1 D J (q A0 O E1 G σ H1 D o G' R hm ‹_›)⟩
  rw [e0]
  refine ⟨_, (pss_cons p1 p2).nox, ?_⟩
  show ∃ v, (L2.start N [V.ref a])[0]? = some (some v) ∧ _
  refine ⟨.ref a, by simp [L2.start], a, ns, rfl, hs, by omega, fun s' g c H' n1 n2 n3 kp rg => ?_⟩
  obtain ⟨G', hG⟩ := tot ns hlen
  refine ⟨some (s', g, c), efs (some (s', g, c)), fun _ => none, lawE N.length i ns, begun ns, _, G', ?_, hG, fun v H2 _ _ b => ?_⟩
  · have ex : ∀ {y : Addr} {o : HO}, H y = some o → y ≠ s' ∧ y ≠ g ∧ y ≠ c := fun {y o} q => ⟨(fun z => by rw [z, n1] at q; cases q), (fun z => by rw [z, n2] at q; cases q), (fun z => by rw [z, n3] at q; cases q)⟩
    have sl : ∀ (j : Nat) (ev : EV), (lawE N.length i ns)[j]? = some (some ev) → (j = i ∧ ev = .st) ∨ (j = 0 ∧ ev = .scr ns) := fun j ev q => by
      unfold lawE at q
      by_cases hj : i = j
      · subst hj
        rw [List.getElem?_set_self (by simp [argE]; omega)] at q
        cases q
        exact .inl ⟨rfl, rfl⟩
      · rw [List.getElem?_set_ne hj] at q
        unfold argE at q
        cases j with
        | zero => simp at q; exact .inr ⟨rfl, q.symm⟩
        | succ j =>
          rw [List.getElem?_append_right (by simp), List.getElem?_replicate] at q
          split at q <;> cases q
    refine ⟨⟨fun j ev q => ?_, rg, fun b z => ?_, fun b z => .inl z, by simp [lawE, argE, L2.start, gName]⟩, fun j p z => by (cases z), fun j l p z => by (cases z), fun j y q => ?_, fun b z => z, fun j f y p q => ?_⟩
    · rcases sl j ev q with ⟨rfl, rfl⟩ | ⟨rfl, rfl⟩
      · exact ⟨.ref s', by rw [List.getElem?_set_self (by simp [L2.start]; omega)], s', g, c, rfl, rfl⟩
      · refine ⟨.ref a, by rw [List.getElem?_set_ne (by omega)]; simp [L2.start], a, rfl, hs.1, ?_⟩
        rcases hs.2 with ⟨_, o, z⟩ | z
        · obtain ⟨y1, y2, y3⟩ := ex z
          exact .inl ⟨fun w => by rcases w with w | w | w <;> contradiction, o, kp _ _ z⟩
        · exact .inr z
    · have z := AO.none b z
      obtain ⟨z1, z2, z3, _⟩ := rg
      rcases z with z | z | z <;> subst z
      · rw [z1]; simp
      · rw [z2]; simp
      · rw [z3]; simp
    · rcases sl j _ q with ⟨_, z⟩ | ⟨_, z⟩ <;> cases z
    · rcases sl j _ q with ⟨_, z⟩ | ⟨_, z⟩ <;> cases z
  · cases b
    exact hq H2
end
end Zd

set_option maxRecDepth 100000
set_option maxHeartbeats 4000000
namespace Zd
open PySem PySem.Spec L2
open PyProof.Rows hiding St

/-! ### the law is called: as L2.law_call, by what FnG promises -/
/-- what may be tracked: the script, known to the object -/
def scrH (K : PySem.W.Frag) (a : Addr) (vs : List Value) (ns : List Int) : Hp := fun b => if b = a ∧ K.lookup a = none then some (.frz { cls := .type "list", data := .seq vs.toArray } (.lst (ns.map V.int))) else none
theorem law_callZ {P : Program} {w : World} {K : PySem.W.Frag} {mg mb : Str → Option Value} {k : Nat} {fa a : Addr} {fd : FuncData} {x : Str} {t : Shared} {vs : List Value} {ns : List Int}
    (kin : K.In t.heap) (nsG : t.heap.Ns mainGlobals mg) (nsB : t.heap.Ns builtinsNs mb) (boot : ∀ x : Str, x ≠ "__name__" → mb x = bootBuiltins x) (lim : t.heap.NoLimit) (gens : t.gens = #[])
    (obj : t.heap.get? a = some { cls := .type "list", data := .seq vs.toArray }) (nums : IntsAre vs ns) (h63 : ns.length ≤ 63) (room : Room k callerA)
    (W : ∀ base : Heap, K.In base → base.Ns mainGlobals mg → FnG P w K mg base CX0 k fa fd [x] (spLaw K)) (bind : ∀ (s : Shared) (u : Value), BindsTo s fd ⟨[u], []⟩ [(x, u)]) :
    codeAny (model P w) callerA (.call (.ref fa) ⟨[.ref a], []⟩) (fun r s' => r = .ok (.ret (.bool true)) ∧ OldK t.heap s'.heap ∧ s'.os = t.os ∧ AllBare s'.gens) t := by
  have rel := vals_ints nums
  have len : vs.length = ns.length := nums.length
  have small : ns.length ≤ sizeLine := Nat.le_trans h63 (by decide)
  let H := scrH K a vs ns
  have only : ∀ b, H b ≠ none → b = a ∧ K.lookup a = none := fun b z => by
    by_cases q : b = a ∧ K.lookup a = none
    · exact q
    · exact absurd (if_neg q) z
  have val : ∀ b u, H b = some u → b = a ∧ u = .frz { cls := .type "list", data := .seq vs.toArray } (.lst (ns.map V.int)) := fun b u z => by
    have q := only b (by rw [z]; simp)
    have z' : some _ = some u := (if_pos q).symm.trans z
    exact ⟨q.1, (Option.some.inj z').symm⟩
  have hok : HOk P w H t.heap := fun b u z => by
    obtain ⟨rfl, rfl⟩ := val b u z
    exact ⟨obj, by rw [List.length_map]; exact small, vs, _, rel, obj⟩
  have scr : ScrAt K none H a ns := by
    refine ⟨small, ?_⟩
    cases hk : K.lookup a with
    | none => exact .inl ⟨fun z => z, _, if_pos ⟨rfl, hk⟩⟩
    | some o =>
      have q := kin a o hk
      rw [obj] at q
      cases q
      exact .inr ⟨{ cls := .type "list", data := .seq vs.toArray }, vs.toArray, _, rfl, rfl, rfl, rfl, by rw [List.size_toArray, len]; exact small, by simpa using rel⟩
  have dictF : ∀ {b : Addr} {o : Obj} {es : Array DictEntry} {n : Nat}, t.heap.get? b = some o → o.data = .dict es n → H b = none := fun {b o es n} e d => by
    cases z : H b with
    | none => rfl
    | some u =>
      obtain ⟨rfl, -⟩ := val b u z
      rw [obj] at e
      cases e
      cases (show Data.seq vs.toArray _ = Data.dict es n from d)
  have nsF : ∀ {b : Addr} {m : Str → Option Value}, t.heap.Ns b m → (hidT t.heap H).Ns b m := fun {b m} ⟨o, es, n, e, d, r⟩ => ⟨o, es, n, hidT_get e (dictF e d), d, r⟩
  have kinF : K.In (hidT t.heap H) := fun b o e => hidT_get (kin b o e) (by
    cases z : H b with
    | none => rfl
    | some u =>
      obtain ⟨q1, q2⟩ := only b (by rw [z]; simp)
      rw [q1, q2] at e
      cases e)
  have modF : Mod K mg (hidT t.heap H) := ⟨kinF, nsF nsG, ⟨mb, nsF nsB, boot⟩, let ⟨mc, l1, l2⟩ := lim; ⟨mc, nsF l1, l2⟩⟩
  have env : Env0 P w K mg (hidT t.heap H) callerA [] t H := ⟨rfl, modF, fun b o e => of_hidT e, Nat.le_of_eq (hidT_size _ _), trivial, (fun b hb => by cases hb), hok, .of_eq gens⟩
  refine codeAny_mono ((W _ kinF (nsF nsG)).run callerA [] t H ⟨[.ref a], []⟩ [.ref a] [.ref a] (fun v _ => v = .bl true) noX room rfl env (bind t (.ref a)) (.cons rfl .nil) ⟨a, ns, rfl, scr, h63, fun _ => rfl⟩) fun res s' h => ?_
  rcases res with e | fl
  · exact (show False from h).elim
  · rcases fl with _ | _ | _ | u
    all_goals first | exact (show False from h).elim | skip
    obtain ⟨v, H', os, bare, un, hok', rv, q⟩ := h
    obtain rfl : v = .bl true := q
    obtain rfl : u = Value.bool true := rv
    refine ⟨rfl, OldK.of_keep fun b o e => ?_, os, bare⟩
    cases z : H b with
    | none => exact un.keep b o e z (fun z => by cases z) (fun z => by simp at z)
    | some u =>
      obtain ⟨rfl, rfl⟩ := val b u z
      have q1 := (hok b _ z).1
      have q2 := (hok' b _ (un.frzs b _ _ z)).1
      rw [e] at q1
      cases q1
      exact q2
theorem walk_z {l : PySem.W.OpenLaw} {k : Nat} {q : Program} {loose : List Str} {XP : (Str → Option Value) → Heap → Prop} {YP : World → Heap → Prop} {d : DefRec} {K : Params → PySem.W.Frag} {x : Str} (hn : l.most = some 63) (hdf : d.params.defaults = []) (room : Room k callerA) (hY : ∀ (w : World) (h : Heap), YP w h → (K w.params).In h)
    (W : ∀ (w : World) (mg : Str → Option Value) (fa : Addr) (h : Heap), (K w.params).In h → h.Ns mainGlobals mg → mg d.name = some (.ref fa) → ∃ fd : FuncData, (∀ (s : Shared) (u : Value), BindsTo s fd ⟨[u], []⟩ [(x, u)]) ∧
        ∀ base : Heap, (K w.params).In base → base.Ns mainGlobals mg → FnG l.prog w (K w.params) mg base CX0 k fa fd [x] (spLaw (K w.params))) :
    PySem.W.WalkO q loose XP YP l.row.toRowW d [] (fun f vs => PySem.call f vs) := by
  refine Att.attach_call hn hdf fun w s₀ s₁ mg mb fa o pm cd doc a vs ns G Y ho hd hcd hmg obj nums hlen hg => ?_
  have kin := hY w _ Y
  obtain ⟨fd, hb, hF⟩ := W w mg fa _ kin G.T.g hmg
  exact law_callZ kin G.T.g G.T.b G.T.builtins G.T.nolimit hg obj nums hlen room hF hb
end Zd

set_option maxRecDepth 100000
set_option maxHeartbeats 4000000
namespace Zd
open PySem PySem.Spec L2
open PyProof.Rows hiding St

/-! ### rows that no run of this law comes to -/
def mNo {α : Type} : Rd α := fun _ _ => none
def sNo : Sd := fun _ _ => none
section
variable {X : Cx} {C : Cn} {pos np sp : Pos} {e : Expr} {st : Stmt} {sts : List Stmt} {m : Rd PyData} {x : Str}
theorem pd_never : PD X C e mNo := ⟨fun _ _ _ => False, ⟨fun _ _ _ _ _ _ h => h.elim⟩, fun A E G σ H Q r G' R hm p => by cases hm⟩
theorem pf_never : PF X C e mNo := ⟨fun _ _ _ => False, ⟨fun _ _ _ _ _ _ h => h.elim⟩, fun A E G σ H Q r G' R hm p => by cases hm⟩
theorem pt_never : PTs' X C e mNo := ⟨fun _ _ _ => False, ⟨fun _ _ _ _ _ _ h => h.elim⟩, fun A E G σ H Q r G' R hm p => by cases hm⟩
theorem psd_never : PSd X C st sNo := ⟨tNever, ps_never, fun A0 O E G σ H D o G' R hm p => by cases hm⟩
theorem pssd_never : PSsd X C sts sNo := ⟨tNever, pss_never, fun A0 O E G σ H D o G' R hm p => by cases hm⟩

/-! ### -x, x += k -/
def negD : PyData → Option PyData
  | .int i => some (.int (-i))
  | _ => none
def mUn (g : PyData → Option PyData) (m : Rd PyData) : Rd PyData := m.bind fun d => Rd.lift (g d)
theorem pd_neg (h : PD X C e m) : PD X C (.UnaryOp .USub e pos) (mUn negD m) := by
  obtain ⟨te, p1, q1⟩ := h.ex
  refine ⟨_, pe_un un_neg p1, fun A E G σ H Q r G' R hm p => ?_⟩
  show te σ H fun x H1 => rU (fun i => .int (-i)) x H1 Q
  refine goD q1 R hm p.err fun d G1 v H1 e1 R1 b hm1 => ?_
  obtain ⟨o, ho, rfl, rfl⟩ := Rd.lift_cases hm1
  cases d <;> first | cases ho | skip
  cases b
  exact ⟨_, rfl, p _ H1 e1 R1.jr (.int _)⟩
def sAugI (i : Nat) (g : Int → Int → Int) (m : Rd PyData) : Sd := fun E G => match E[i]? with
  | some (some (.d (.int a))) => rdS m (fun d E G => match d with
      | .int b => some (.nx (E.set i (some (.d (.int (g a b))))), G)
      | _ => none) E G
  | _ => none
theorem psd_augI (i : Nat) {op : Operator} {g : Int → Int → Int} (hN : X.N.Nodup) (ho : PIp X op (ipI g)) (h : PD X C e m) (hi : X.N[i]? = some x := by rfl) (hx : Loc X.env.scope x := by first | exact Or.inl rfl | exact Or.inr rfl)
    (hf : X.fn x = true ∨ X.env.scope.names.lookup x = some .local := by first | exact .inl rfl | exact .inr rfl | assumption) : PSd X C (.AugAssign (.Name x np) op e sp) (sAugI i g m) := by
  obtain ⟨te, p1, q1⟩ := h.ex
  refine ⟨_, ps_aug hN hi hx p1 ho hf, fun A0 O E G σ H D o G' R hm p => ?_⟩
  unfold sAugI at hm
  split at hm
  case h_2 => cases hm
  rename_i a hE
  obtain ⟨v, h1, h2⟩ := R.rel.slot i _ hE
  cases h2
  refine ⟨_, h1, ?_⟩
  rcases rdS_cases hm with ⟨x, e1, rfl⟩ | ⟨d, G1, e1, hm1⟩
  · exact q1 _ E G σ H _ _ _ R.rel e1 p.perr
  · cases d <;> first | (cases hm1; done) | skip
    rename_i b
    cases hm1
    refine q1 _ E G σ H _ _ _ R.rel e1 fun w H1 x1 j1 b1 => ?_
    cases b1
    exact ⟨a, b, rfl, rfl, p O _ H1 ((R.ext x1 j1).setD i (.int _)) (.of x1)⟩

/-! ### {} and {k: v, ..} -/
def gk (ls : List (Key × V)) : List (GK × V) := ls.map fun p => (.inl p.1, p.2)
theorem own_dict {K : PySem.W.Frag} {H : Hp} {A : Addr → Prop} {p : Addr} {ks : List (Key × V)} {kvs : List (PyData × PyData)} (h : H p = some (.dK ks)) (q : Dvk K H (fun a => A a ∨ a = p) (gk ks) kvs) : OwnAt K H (fun a => A a ∨ a = p) p (.dict kvs) := ⟨gk ks, ⟨_, h, .inl ⟨ks, rfl, rfl⟩⟩, q⟩
theorem pf_dict0 : PF X C (.Dict [] [] pos) (Rd.ok (.dict [])) := by
  refine ⟨_, pe_dnewK, fun A E G σ H Q r G' R hm p => ?_⟩
  cases hm
  show ∀ d, H d = none → Q (.ref d) (upd H d (.dK []))
  exact fun d n => p d _ n (Kept.new n).ext ((Kept.new n).jr R.jr) ⟨[], ⟨_, upd_same, hod_nil⟩, .nil⟩
/-- the pairs of a display, its keys constants -/
def mPairs : List (Key × Rd PyData) → Rd (List (Key × PyData))
  | [] => Rd.ok []
  | (k, m) :: r => m.bind fun d => (mPairs r).bind fun ds => Rd.ok ((k, d) :: ds)
def mDisp (ps : List (Key × Rd PyData)) : Rd PyData := (mPairs ps).bind fun ds => Rd.ok (.dict (ds.foldl (fun acc kv => putD acc (.inl kv.1) kv.2) []))
inductive PPz (X : Cx) (C : Cn) : List (Option Expr) → List Expr → List (Key × Rd PyData) → Prop
  | nil : PPz X C [] [] []
  | str {s : Str} {j : Nat} {kp : Pos} {v : Expr} {m : Rd PyData} {ks : List (Option Expr)} {vs : List Expr} {ps : List (Key × Rd PyData)} : PD X C v m → PPz X C ks vs ps → PPz X C (some (.Constant (.str s) j kp) :: ks) (v :: vs) ((.inr s, m) :: ps)
  | int {n : Int} {j : Nat} {kp : Pos} {v : Expr} {m : Rd PyData} {ks : List (Option Expr)} {vs : List Expr} {ps : List (Key × Rd PyData)} : PD X C v m → PPz X C ks vs ps → PPz X C (some (.Constant (.int n) j kp) :: ks) (v :: vs) ((.inl n, m) :: ps)
inductive DvK2 (K : PySem.W.Frag) (H : Hp) (A : Addr → Prop) : List (V × V) → List (Key × PyData) → Prop
  | nil : DvK2 K H A [] []
  | cons {k : Key} {v : V} {d : PyData} {vs : List (V × V)} {ds : List (Key × PyData)} : Dv K H A v d → DvK2 K H A vs ds → DvK2 K H A ((kV k, v) :: vs) ((k, d) :: ds)
theorem ppz_t {pos : Pos} {ks : List (Option Expr)} {vs : List Expr} {ps : List (Key × Rd PyData)} (h : PPz X C ks vs ps) : ∃ trs, PPs X pos ks vs trs ∧ ks.all (·.isSome) = true ∧ ks.length = vs.length ∧ ps.length = ks.length ∧ ∀ A E G σ H Q r G', Rel C.K C.B A E G σ H → mPairs ps E G = some (r, G') →
    (match r with
      | .ok ds => ∀ zs H', Ext C.B H H' → JR C.B G' H' → DvK2 C.K H' A zs ds → Q zs H'
      | .error x => PErr C A H x G') → tPairs trs σ H Q := by
  have step : ∀ {k : Key} {te : TE} {m : Rd PyData} {ps : List (Key × Rd PyData)} {trs : List (TE × TE)} (_ : ∀ A E G σ H Q r G', Rel C.K C.B A E G σ H → m E G = some (r, G') → PostD C A H r G' Q → te σ H Q)
      (_ : ∀ A E G σ H Q r G', Rel C.K C.B A E G σ H → mPairs ps E G = some (r, G') → (match r with
      | .ok ds => ∀ zs H', Ext C.B H H' → JR C.B G' H' → DvK2 C.K H' A zs ds → Q zs H'
      | .error x => PErr C A H x G') → tPairs trs σ H Q), ∀ A E G σ H (Q : List (V × V) → Hp → Prop) r G', Rel C.K C.B A E G σ H → mPairs ((k, m) :: ps) E G = some (r, G') → (match r with
      | .ok ds => ∀ zs H', Ext C.B H H' → JR C.B G' H' → DvK2 C.K H' A zs ds → Q zs H'
      | .error x => PErr C A H x G') → te σ H fun y H2 => tPairs trs σ H2 fun ps H3 => Q ((kV k, y) :: ps) H3 := by
    intro k te m ps trs q1 q2 A E G σ H Q r G' R hm p
    refine goD q1 R hm (fun x hx => by subst hx; exact p) fun d G1 v H1 e1 R1 b hm1 => ?_
    rcases Rd.bind_cases hm1 with ⟨x, h1, h2⟩ | ⟨ds, G2, h1, h2⟩
    · subst h2; exact q2 A E G1 σ H1 _ _ _ R1 h1 (PErr.ext e1 p)
    · cases h2
      exact q2 A E G1 σ H1 _ _ _ R1 h1 fun zs H' e2 j2 b2 => p _ H' (e1.trans e2) j2 (.cons (b.ext e2 R1.ef) b2)
  induction h with
  | nil => exact ⟨[], pps_nil, rfl, rfl, rfl, fun A E G σ H Q r G' R hm p => by cases hm; exact p [] H (Ext.refl _ _) R.jr .nil⟩
  | str hv _ ih =>
    obtain ⟨te, p1, q1⟩ := hv.ex
    obtain ⟨trs, p2, a1, a2, a3, q2⟩ := ih
    exact ⟨_, pps_cons pe_str p1 p2, by simpa using a1, by simp [a2], by simp [a3], fun A E G σ H Q r G' R hm p => step q1 q2 A E G σ H Q r G' R hm p⟩
  | int hv _ ih =>
    obtain ⟨te, p1, q1⟩ := hv.ex
    obtain ⟨trs, p2, a1, a2, a3, q2⟩ := ih
    exact ⟨_, pps_cons pe_int p1 p2, by simpa using a1, by simp [a2], by simp [a3], fun A E G σ H Q r G' R hm p => step q1 q2 A E G σ H Q r G' R hm p⟩
theorem gk_put {K : PySem.W.Frag} {H : Hp} {A : Addr → Prop} {acc : List (Key × V)} {acc' : List (PyData × PyData)} {k : Key} {v : V} {d : PyData} (q : Dvk K H A (gk acc) acc') (a : Dv K H A v d) : Dvk K H A (gk (putK acc k v)) (putD acc' (.inl k) d) := by
  have := q.put (.inl k) a
  unfold gk at this ⊢
  rw [putK_inl] at this
  exact this
theorem DvK2.kvs {K : PySem.W.Frag} {H : Hp} {A : Addr → Prop} {zs : List (V × V)} {ds : List (Key × PyData)} (h : DvK2 K H A zs ds) : ∃ kvs : List (Key × V), zs = kvs.map (fun kv => (kV kv.1, kv.2)) ∧ kvs.length = ds.length ∧
    ∀ acc acc', Dvk K H A (gk acc) acc' → Dvk K H A (gk (kvs.foldl (fun acc kv => putK acc kv.1 kv.2) acc)) (ds.foldl (fun acc kv => putD acc (.inl kv.1) kv.2) acc') := by
  induction h with
  | nil => exact ⟨[], rfl, rfl, fun _ _ q => q⟩
  | cons a _ ih =>
    obtain ⟨kvs, e1, e2, e3⟩ := ih
    exact ⟨(_, _) :: kvs, by rw [e1]; rfl, by simp [e2], fun acc acc' q => e3 _ _ (gk_put q a)⟩
theorem mPairs_len {ps : List (Key × Rd PyData)} : ∀ {E : Evn} {G G' : Rng} {ds : List (Key × PyData)}, mPairs ps E G = some (.ok ds, G') → ds.length = ps.length := by
  induction ps with
  | nil => intro E G G' ds h; cases h; rfl
  | cons a r ih =>
    intro E G G' ds h
    rcases Rd.bind_cases h with ⟨x, h1, h2⟩ | ⟨d, G1, h1, h2⟩
    · cases h2
    · rcases Rd.bind_cases h2 with ⟨x, h3, h4⟩ | ⟨r, G2, h3, h4⟩
      · cases h4
      · cases h4; simp [ih h3]
theorem pf_dict {ks : List (Option Expr)} {vs : List Expr} {ps : List (Key × Rd PyData)} (h : PPz X C ks vs ps) (h0 : ks ≠ [] := by simp) (h15 : ks.length ≤ 15 := by simp) : PF X C (.Dict ks vs pos) (mDisp ps) := by
  obtain ⟨trs, p1, a1, a2, a3, q1⟩ := ppz_t (pos := pos) h
  refine ⟨_, pe_disp p1 a1 a2 h0 h15, fun A E G σ H Q r G' R hm p => ?_⟩
  intro d hd
  have kd := Kept.new (o := .dK []) hd
  have RL : Rel C.K C.B (fun b => A b ∨ b = d) E G σ (upd H d (.dK [])) := R.fresh hd kd.ext (kd.jr R.jr) (by rw [upd_same]; simp)
  rcases Rd.bind_cases hm with ⟨x, h1, h2⟩ | ⟨ds, G2, h1, h2⟩
  · subst h2
    exact q1 _ E G σ _ _ _ _ RL h1 (PErr.ext kd.ext (PErr.anti (fun a z => .inl z) p))
  · cases h2
    refine q1 _ E G σ _ _ _ _ RL h1 fun zs H' e2 j2 b2 => ?_
    obtain ⟨kvs, rfl, l1, f1⟩ := b2.kvs
    have nd : ¬ efs C.B d := nef R.jr hd
    have hd2 : H' d = some (.dK []) := e2.keep d _ upd_same nd
    have l2 := mPairs_len h1
    refine ⟨hd2, kvs, rfl, by omega, ?_⟩
    refine p d _ hd ?_ (j2.upd nd) (own_dict upd_same ((f1 [] [] .nil).step (fun a o q n => ⟨by rw [upd_ne fun z => n (.inr z)]; exact q, n⟩) (tups_upd fun xs z => by rw [hd2] at z; cases z)))
    have e3 := kd.ext (B := C.B) |>.trans e2
    exact ⟨fun a o q n => by rw [upd_ne (fun z => by rw [z, hd] at q; cases q)]; exact e3.keep a o q n, fun a q => by
      by_cases z : a = d
      · rw [z, upd_same]; simp
      · rw [upd_ne z]; exact e3.trk a q, fun a xs q => tups_upd (fun xs z => by rw [hd2] at z; cases z) a xs (e3.tup a xs q)⟩
end

/-! ### len(script) -/
def mLenS (i : Nat) : Rd PyData := fun E G => match E[i]? with
  | some (some (.scr ns)) => some (.ok (.int ns.length), G)
  | _ => none
theorem pd_lenS (i : Nat) {X : Cx} {C : Cn} {x : Str} {pos fp np : Pos} (hK : X.K = C.K) (hg : Gl X (Str.ofString "len")) (hm : X.mg (Str.ofString "len") = none) (hN : X.N[i]? = some x := by rfl) (hv : Vis X.env.scope x := by first | exact Or.inl rfl | exact Or.inr (Or.inl rfl) | exact Or.inr (Or.inr rfl)) (hd : (x == ("__debug__" : Str)) = false := by decide)
    (hcd : (x == ("__classdict__" : Str)) = false := by decide) (hs : starEach [.Name x np] X.env = (false, eval (.Name x np) X.env) :: starEach [] X.env := by rfl) (hpl : (backTo pos (starEach [] X.env)).any (·.1) = false := by rfl) : PD X C (.Call (.Name (Str.ofString "len") fp) [.Name x np] [] pos) (mLenS i) := by
  refine ⟨_, pe_callB call_len_seq hg hm (by decide +kernel) (pa_cons (pe_var hN hv hd hcd) pa_nil hs) (by decide) (by decide) hs hpl, fun A E G σ H Q r G' R hm p => ?_⟩
  unfold mLenS at hm
  split at hm
  · rename_i ns e
    cases hm
    obtain ⟨v, h1, a, rfl, h2⟩ := R.slot i _ e
    refine ⟨_, h1, a, ns.map V.int, rfl, .inl (by rw [hK]; exact h2.sq), ?_⟩
    rw [List.length_map]
    exact p _ H (Ext.refl _ _) R.jr (.int _)
  · cases hm

/-! ### what is known of the defs -/
structure Kn (P : Program) (w : World) (K : PySem.W.Frag) (mg : Str → Option Value) (base : Heap) (k : Nat) (x : Str) (n : Nat) (F : Fd) : Prop where
  ex : ∃ (f : Addr) (fd : FuncData) (ps : List Str), FnG P w K mg base CX0 k f fd ps (Prom K mg n F) ∧ mg x = some (.ref f) ∧ PySem.W.keepIn K (.ref f) = true ∧ Binds K fd ps [] ∧ ps.length = n
structure KnK (P : Program) (w : World) (K : PySem.W.Frag) (mg : Str → Option Value) (base : Heap) (k : Nat) (x : Str) (n np : Nat) (ks : List Str) (π : List Nat) (F : Fd) : Prop where
  ex : ∃ (f : Addr) (fd : FuncData) (ps : List Str), FnG P w K mg base CX0 k f fd ps (Prom K mg n F) ∧ mg x = some (.ref f) ∧ PySem.W.keepIn K (.ref f) = true ∧ KB K fd ps np ks π ∧ ps.length = n
section
variable {P : Program} {w : World} {K : PySem.W.Frag} {mg : Str → Option Value} {base : Heap} {j k n np : Nat} {x : Str} {F : Fd} {ks : List Str} {π : List Nat}
theorem Kn.kn (h : Kn P w K mg base j x n F) (hj : j ≤ k) {X : Cx} {B : Amb} (e1 : X.prog = P := by rfl) (e2 : X.w = w := by rfl) (e3 : X.K = K := by rfl) (e4 : X.mg = mg := by rfl) (e5 : X.base = base := by rfl) : Knows X ⟨K, mg, B, noX⟩ k x n F := by
  subst e1 e2 e3 e4 e5
  obtain ⟨f, fd, ps, h1, h2, h3, h4, h5⟩ := h.ex
  exact ⟨CX0, f, fd, ps, h1.up hj, h2, h3, h4, h5, pass0⟩
theorem KnK.kn (h : KnK P w K mg base j x n np ks π F) (hj : j ≤ k) {X : Cx} {B : Amb} (e1 : X.prog = P := by rfl) (e2 : X.w = w := by rfl) (e3 : X.K = K := by rfl) (e4 : X.mg = mg := by rfl) (e5 : X.base = base := by rfl) : KnowsK X ⟨K, mg, B, noX⟩ k x n np ks π F := by
  subst e1 e2 e3 e4 e5
  obtain ⟨f, fd, ps, h1, h2, h3, h4, h5⟩ := h.ex
  exact ⟨CX0, f, fd, ps, h1.up hj, h2, h3, h4, h5, pass0⟩
/-- no promise -/
theorem Fun.zero {qn : Str} {st : Stmt} {f : Addr} {fd : FuncData} {ps : List Str} : FnG P w K mg base CX0 k f fd ps (Prom K mg ps.length fun _ _ => none) :=
  ⟨fun vs H Q E h => h.1, fun A st s H ar us vs Q E hr hg he hb hv h => by obtain ⟨_, B, A, as, G, o, G', _, _, _, _, z, _⟩ := h; cases z⟩
end
end Zd

set_option maxRecDepth 100000
set_option maxHeartbeats 4000000
namespace Zd
open PySem PySem.Spec L2
open PyProof.Rows hiding St

/-! ### the mirrors that every law has -/
def mBeg1 : Rd PyData := mLc (mScr 0) (tgN 2) (mT (mOp geD (mCallB absF (mCons (mBor 2) mNil)) (mOp powD (Rd.ok (.int 10)) (Rd.ok (.int 18))))) (mOp subD (mCallB absF (mCons (mBor 2) mNil)) (mOp powD (Rd.ok (.int 10)) (Rd.ok (.int 18)))) [2]
def mBeg2 : Rd PyData := mLc (mScr 0) (tgN 2) mYes (mCallB absF (mCons (mBor 2) mNil)) [2]
def mMixed (p1 p2 p3 p4 : Int) : Sd := (sSeq (sPar 1 2 (vD (mOp addD (mStT 0) (Rd.ok (.int 1)))) (vD (Rd.ok (.int 0))))
 (sSeq (sStT 0 (mVar 1))
 (sSeq (sFor (mIt (mLst (mCons (Rd.ok (.int p1)) (mCons (Rd.ok (.int p2)) (mCons (Rd.ok (.int p3)) (mCons (Rd.ok (.int p4)) mNil)))))) (tgN 3) (sSeq (sSet 4 (vD (mOp addD (mOp mulD (Rd.ok (.int 69621)) (mBor 1)) (mOp fdivD (mBor 3) (Rd.ok (.int 41))))))
 (sSeq (sCells 0 (tgN 5) (sSet 4 (vD (mOp modD (mCallB intF (mCons (mOp addD (mOp addD (mOp mulD (mBor 4) (Rd.ok (.int 48271))) (mBor 5)) (mBor 1)) mNil)) (mBor 3)))))
 (sSet 2 (vD (mOp addD (mOp mulD (mBor 2) (Rd.ok (.int 2147483659))) (mOp modD (mCallB intF (mCons (mOp powD (mBor 4) (Rd.ok (.int 5))) mNil)) (mBor 3))))))))
 (sRet (mVar 2)))))
def mDraw (f_law_mixed : Fd) : Sd := (sSeq (sIf (mT (mOp eqD (mStR 0) (Rd.ok (.int 0)))) (sStR 0 (mIfE (mGr 0) (mPop0 0) (mCallZ f_law_mixed (aSt 0 aNil)))) sNx)
 (sSeq (sSet 2 (vD (mOp modD (mCallB intF (mCons (mStR 0) mNil)) (mBor 1))))
 (sSeq (sStR 0 (mOp fdivD (mStR 0) (mBor 1)))
 (sRet (mVar 2)))))
def mPlain (f_law_plain : Fd) : Sd := (sSeq (sIf (mT (mIsi2 isList isTup (mBor 0))) (sRet (mOp eqD (mLc (mIt (mBor 0)) (tgN 1) (mNot (mT (mCallZ f_law_plain (aD (mVar 1) aNil)))) (Rd.ok (.int 1)) [1]) (mLst mNil))) sNx)
 (sSeq (sIf (mT (mIsi isDict (mBor 0))) (sRet (mCallZ f_law_plain (aD (mCallB lstF (mCons mNo mNil)) aNil))) sNx)
 (sRet (mOrV (mOp isN (mBor 0) (Rd.ok .none)) (mIsi2 isInt isStr (mBor 0))))))
def plainF : Nat → Fd
  | 0 => fun _ _ => none
  | j + 1 => fnD 2 (mPlain (plainF j))
def mIs (j : Nat) : Sd := (sRet (mAndV (mCallZ (plainF j) (aD (mVar 0) aNil)) (mAndV (mOp eqD (mBor 0) (mBor 1)) (mAndV (mOp eqD (mBor 1) (mBor 0)) (mOp eqD (mCallB reprF (mCons (mBor 0) mNil)) (mCallB reprF (mCons (mBor 1) mNil)))))))
def fIs (j : Nat) : Fd := fnD 2 (mIs j)
theorem abs_nat (n : Int) : (if n < 0 then -n else n) = (n.natAbs : Int) := by split <;> omega
theorem lcRun_true {f : Tg} {tt : Rd Bool} {te : Rd PyData} {E E1 : Evn} {G G1 G2 G3 : Rng} {d y : PyData} {ds ys : List PyData} (h1 : f d E = some E1) (h2 : tt E1 G = some (.ok true, G1)) (h3 : te E1 G1 = some (.ok y, G2)) (h4 : lcRun f tt te E ds G2 = some (ys, G3)) : lcRun f tt te E (d :: ds) G = some (y :: ys, G3) := by
  unfold lcRun
  rw [h1]
  simp only [Option.bind]
  rw [h2]
  simp only [if_true]
  rw [h3]
  simp only
  rw [h4]
  rfl
theorem lcRun_false {f : Tg} {tt : Rd Bool} {te : Rd PyData} {E E1 : Evn} {G G1 : Rng} {d : PyData} {ds : List PyData} {r : List PyData × Rng} (h1 : f d E = some E1) (h2 : tt E1 G = some (.ok false, G1)) (h4 : lcRun f tt te E ds G1 = some r) : lcRun f tt te E (d :: ds) G = some r := by
  unfold lcRun
  rw [h1]
  simp only [Option.bind]
  rw [h2]
  simpa using h4
/-- a comprehension that draws nothing -/
theorem lcRun_pure {f : Tg} {tt : Rd Bool} {te : Rd PyData} {E : Evn} {G : Rng} (p : PyData → Bool) (h : PyData → PyData) : ∀ {ds : List PyData}, (∀ d ∈ ds, ∃ E1, f d E = some E1 ∧ tt E1 G = some (.ok (p d), G) ∧ (p d = true → te E1 G = some (.ok (h d), G))) → lcRun f tt te E ds G = some ((ds.filter p).map h, G)
  | [], _ => rfl
  | d :: ds, hf => by
    obtain ⟨E1, h1, h2, h3⟩ := hf d List.mem_cons_self
    have ih := lcRun_pure p h fun e he => hf e (List.mem_cons_of_mem _ he)
    cases hp : p d with
    | true =>
      rw [hp] at h2
      rw [List.filter_cons_of_pos hp]
      exact lcRun_true h1 h2 (h3 hp) ih
    | false =>
      rw [hp] at h2
      rw [List.filter_cons_of_neg (by rw [hp]; simp)]
      exact lcRun_false h1 h2 ih
theorem beg1_run (ns : List Int) (E : Evn) (G : Rng) (hE : E.length = 3) : lcRun (tgN 2) (mT (mOp geD (mCallB absF (mCons (mBor 2) mNil)) (mOp powD (Rd.ok (.int 10)) (Rd.ok (.int 18))))) (mOp subD (mCallB absF (mCons (mBor 2) mNil)) (mOp powD (Rd.ok (.int 10)) (Rd.ok (.int 18)))) E (ns.map .int) G =
    some ((ns.filter fun n => decide ((10 : Int) ^ 18 ≤ (n.natAbs : Int))).map (fun n => PyData.int ((n.natAbs : Int) - 10 ^ 18)), G) := by
  have p18 : ((10 : Int) ^ (18 : Int).toNat) = 10 ^ 18 := by decide
  rw [lcRun_pure (fun d => match d with | .int n => decide ((10 : Int) ^ 18 ≤ (n.natAbs : Int)) | _ => false) (fun d => match d with | .int n => .int ((n.natAbs : Int) - 10 ^ 18) | d => d)]
  · rw [List.filter_map, List.map_map]
    rfl
  · intro d hd
    obtain ⟨n, _, rfl⟩ := List.mem_map.mp hd
    have e2 : (E.set 2 (some (.d (.int n))))[2]? = some (some (.d (.int n))) := List.getElem?_set_self (by omega)
    refine ⟨_, rfl, ?_, fun _ => ?_⟩
    · simp [mT, mOp, mCallB, mCons, mBor, mNil, Rd.bind, Rd.ok, Rd.lift, absF, powD, geD, e2, asB, abs_nat, Option.map, p18]
    · simp [mOp, mCallB, mCons, mBor, mNil, Rd.bind, Rd.ok, Rd.lift, absF, powD, subD, e2, abs_nat, Option.map, p18]
theorem beg2_run (ns : List Int) (E : Evn) (G : Rng) (hE : E.length = 3) : lcRun (tgN 2) mYes (mCallB absF (mCons (mBor 2) mNil)) E (ns.map .int) G = some (ns.map fun n => PyData.int (n.natAbs : Int), G) := by
  rw [lcRun_pure (fun _ => true) (fun d => match d with | .int n => .int (n.natAbs : Int) | d => d)]
  · rw [List.filter_eq_self.mpr (fun _ _ => rfl), List.map_map]
    rfl
  · intro d hd
    obtain ⟨n, _, rfl⟩ := List.mem_map.mp hd
    have e2 : (E.set 2 (some (.d (.int n))))[2]? = some (some (.d (.int n))) := List.getElem?_set_self (by omega)
    exact ⟨_, rfl, rfl, fun _ => by simp [mCallB, mCons, mBor, mNil, Rd.bind, Rd.ok, Rd.lift, absF, e2, abs_nat, Option.map]⟩
theorem beg1_ok : ∀ ns : List Int, ns.length ≤ 1000 → mBeg1 (argE 3 [.scr ns]) ⟨[], [], 0, 0⟩ = some (.ok (.list ((begun ns).gs.map .int)), ⟨[], [], 0, 0⟩) := fun ns h => by
  have r := beg1_run ns (wipeE (argE 3 [.scr ns]) [2]) ⟨[], [], 0, 0⟩ (by rw [wipeE_length]; rfl)
  have e : mScr 0 (argE 3 [.scr ns]) ⟨[], [], 0, 0⟩ = some (.ok (ns.map .int), ⟨[], [], 0, 0⟩) := rfl
  unfold mBeg1 mLc
  rw [Rd.bind_ok e, if_pos (by rw [List.length_map]; omega), r]
  simp [begun, List.map_map, Function.comp_def]
theorem beg2_ok : ∀ (ns : List Int) (d : EV), ns.length ≤ 1000 → mBeg2 ((argE 3 [.scr ns]).set 1 (some d)) ⟨[], [], 0, 0⟩ = some (.ok (.list ((begun ns).cs.map .int)), ⟨[], [], 0, 0⟩) := fun ns d h => by
  have r := beg2_run ns (wipeE ((argE 3 [.scr ns]).set 1 (some d)) [2]) ⟨[], [], 0, 0⟩ (by rw [wipeE_length]; rfl)
  have e : mScr 0 ((argE 3 [.scr ns]).set 1 (some d)) ⟨[], [], 0, 0⟩ = some (.ok (ns.map .int), ⟨[], [], 0, 0⟩) := rfl
  unfold mBeg2 mLc
  rw [Rd.bind_ok e, if_pos (by rw [List.length_map]; omega), r]
  simp [begun, List.map_map, Function.comp_def]
end Zd
namespace Zd
open PySem PySem.Spec L2
open PyProof.Rows hiding St
theorem bt_len : bootBuiltins (Str.ofString "len") = some (.builtin "len") := by decide +kernel
theorem bt_abs : bootBuiltins (Str.ofString "abs") = some (.builtin "abs") := by decide +kernel
theorem bt_all : bootBuiltins (Str.ofString "all") = some (.builtin "all") := by decide +kernel
theorem bt_any : bootBuiltins (Str.ofString "any") = some (.builtin "any") := by decide +kernel
theorem bt_repr : bootBuiltins (Str.ofString "repr") = some (.builtin "repr") := by decide +kernel
theorem bt_min : bootBuiltins (Str.ofString "min") = some (.builtin "min") := by decide +kernel
theorem bt_max : bootBuiltins (Str.ofString "max") = some (.builtin "max") := by decide +kernel
theorem bt_sorted : bootBuiltins (Str.ofString "sorted") = some (.builtin "sorted") := by decide +kernel
theorem bt_tuple : bootBuiltins (Str.ofString "tuple") = some (.type "tuple") := by decide +kernel
theorem bt_list : bootBuiltins (Str.ofString "list") = some (.type "list") := by decide +kernel
theorem bt_dict : bootBuiltins (Str.ofString "dict") = some (.type "dict") := by decide +kernel
theorem bt_set : bootBuiltins (Str.ofString "set") = some (.type "set") := by decide +kernel
theorem bt_int : bootBuiltins (Str.ofString "int") = some (.type "int") := by decide +kernel
theorem bt_str : bootBuiltins (Str.ofString "str") = some (.type "str") := by decide +kernel
theorem bt_bool : bootBuiltins (Str.ofString "bool") = some (.type "bool") := by decide +kernel
theorem begun_z {P : Program} {w : World} {K : PySem.W.Frag} {mg : Str → Option Value} {base : Heap} {f : Addr} {fd : FuncData} {st : Stmt} {N : List Str} {dp rp p1 p2 p3 p4 np zp tp : Pos} {k1 k2 k3 k4 j1 j2 : Nat} {x : Str} {s1 : Stmt} {e2 : Expr} (F : Fun K (Str.ofString "_law_begun") (Str.ofString "_law_begun") st f fd) (S : FnScope N [Str.ofString "script"] (defScope st)) (hN : N.length = 3)
    (e0 : defBody st = [s1, .Return (some (.Dict [some (.Constant (.str (Str.ofString "great")) k1 p1), some (.Constant (.str (Str.ofString "cells")) k2 p2), some (.Constant (.str (Str.ofString "rest")) k3 p3), some (.Constant (.str (Str.ofString "turn")) k4 p4)] [.Name x np, e2, .Constant (.int 0) j1 zp, .Constant (.int 0) j2 tp] dp)) rp])
    (hb : ∀ (cdv : Value) (A : Around) (stk : List Env) (s : Shared) (H : Hp) (E : XK), PSd (Bod P w K mg base N (Str.ofString "_law_begun") st f cdv A stk s H E) ⟨K, mg, none, noX⟩ s1 (sSet 1 (vF mBeg1)) ∧ PE (Bod P w K mg base N (Str.ofString "_law_begun") st f cdv A stk s H E) (.Name x np) (tVar 1) ∧ PF (Bod P w K mg base N (Str.ofString "_law_begun") st f cdv A stk s H E) ⟨K, mg, none, noX⟩ e2 mBeg2) :
    FnG P w K mg base CX0 1 f fd [Str.ofString "script"] (spBegun K) := by
  refine Fun.g (k := 0) F S (fun vs H Q E h => by obtain ⟨a, ns, rfl, _⟩ := h; rfl) fun cdv A stk s H vs Q E hr hg h => ?_
  obtain ⟨h1, h2, h3⟩ := hb cdv A stk s H E
  rw [e0]
  obtain ⟨t, p, q⟩ := begun_body (nN := 3) (dp := dp) (rp := rp) (p1 := p1) (p2 := p2) (p3 := p3) (p4 := p4) (zp := zp) (tp := tp) (k1 := k1) (k2 := k2) (k3 := k3) (k4 := k4) (j1 := j1) (j2 := j2) h1 h2 h3 (by decide) beg1_ok beg2_ok
  exact ⟨t, p.nox, q vs H Q E N hN h⟩
end Zd

set_option maxRecDepth 100000
set_option maxHeartbeats 4000000
namespace Zd
open PySem PySem.Spec L2
open PyProof.Rows hiding St

/-! ### what the draws hand back -/
theorem pow_ok {i j : Int} (h : 0 ≤ j ∧ j ≤ 1000000 ∧ i.natAbs < 2 ^ 64) : powD (.int i) (.int j) = some (.int (i ^ j.toNat)) := if_pos h
theorem mul_okR {i j : Int} (h : j.natAbs < 2 ^ 64) : mulD (.int i) (.int j) = some (.int (i * j)) := by
  unfold mulD
  simp only [h, decide_true, Bool.or_true, if_true]
theorem mul_okL {i j : Int} (h : i.natAbs < 2 ^ 64) : mulD (.int i) (.int j) = some (.int (i * j)) := by
  unfold mulD
  simp only [h, decide_true, Bool.true_or, if_true]
theorem mod_ok {i j : Int} (h : 0 < j) : modD (.int i) (.int j) = some (.int (i % j)) := if_pos h
theorem fdiv_ok {i j : Int} (h : 0 < j ∧ j < 1073741824) : fdivD (.int i) (.int j) = some (.int (i / j)) := if_pos h
theorem add_ok {i j : Int} : addD (.int i) (.int j) = some (.int (i + j)) := rfl
theorem sSeq_nx {a b : Sd} {E E1 : Evn} {G G1 : Rng} (h : a E G = some (.nx E1, G1)) : sSeq a b E G = b E1 G1 := by unfold sSeq; rw [h]
theorem sSeq_ret {a b : Sd} {E : Evn} {G G1 : Rng} {d : PyData} (h : a E G = some (.ret d, G1)) : sSeq a b E G = some (.ret d, G1) := by unfold sSeq; rw [h]
theorem fnD_ret {N : Nat} {m : Sd} {as : List EV} {G G' : Rng} {d : PyData} (h : m (argE N as) G = some (.ret d, G')) : fnD N m as G = some (.ret d, G') := by unfold fnD; rw [h]
theorem rdS_ok {α : Type} {m : Rd α} {f : α → Sd} {E : Evn} {G G1 : Rng} {a : α} (h : m E G = some (.ok a, G1)) : rdS m f E G = f a E G1 := by unfold rdS; rw [h]
theorem mixCells (p : Int) (hp : 0 < p) (t fnd : Int) (G : Rng) : ∀ (cs : List Int) (b : Int) (c : Option EV), ∃ b' c', (cellRun (tgN 5) (sSet 4 (vD (mOp modD (mCallB intF (mCons (mOp addD (mOp addD (mOp mulD (mBor 4) (Rd.ok (.int 48271))) (mBor 5)) (mBor 1)) mNil)) (mBor 3)))) G.cs (cs.map .int)) [some .st, some (.d (.int t)), some (.d (.int fnd)), some (.d (.int p)), some (.d (.int b)), c] G = some (.nx [some .st, some (.d (.int t)), some (.d (.int fnd)), some (.d (.int p)), some (.d (.int b')), c'], G) ∧ (cs = [] → b' = b) ∧ (cs ≠ [] → 0 ≤ b' ∧ b' < p)
  | [], b, c => ⟨b, c, rfl, fun _ => rfl, fun h => absurd rfl h⟩
  | x :: cs, b, c => by
    obtain ⟨b', c', h1, h2, h3⟩ := mixCells p hp t fnd G cs ((b * 48271 + x + t) % p) (some (.d (.int x)))
    refine ⟨b', c', ?_, fun h => (by cases h), fun _ => ?_⟩
    · rw [List.map_cons]
      unfold cellRun
      simp only [tgN, Option.bind]
      have e : (sSet 4 (vD (mOp modD (mCallB intF (mCons (mOp addD (mOp addD (mOp mulD (mBor 4) (Rd.ok (.int 48271))) (mBor 5)) (mBor 1)) mNil)) (mBor 3)))) [some .st, some (.d (.int t)), some (.d (.int fnd)), some (.d (.int p)), some (.d (.int b)), some (.d (.int x))] G = some (.nx [some .st, some (.d (.int t)), some (.d (.int fnd)), some (.d (.int p)), some (.d (.int ((b * 48271 + x + t) % p))), some (.d (.int x))], G) := by
        simp [sSet, rdS, vD, mOp, mCallB, mCons, mNil, mBor, Rd.bind, Rd.ok, Rd.lift, mulD, addD, modD, intF, hp]
      simp only [List.set_cons_succ, List.set_cons_zero]
      rw [e]
      simp only [if_true]
      exact h1
    · by_cases hc : cs = []
      · rw [h2 hc]
        exact ⟨Int.emod_nonneg _ (by omega), Int.emod_lt_of_pos _ hp⟩
      · exact h3 hc
theorem mixFor (t : Int) (ht : 0 ≤ t) (ht2 : t < 2 ^ 40) (G : Rng) : ∀ (ps : List Int) (_ : ∀ p ∈ ps, 0 < p ∧ p < 2 ^ 40) (fnd : Int) (x3 x4 x5 : Option EV), ∃ f' y3 y4 y5, forRun (tgN 3) (sSeq (sSet 4 (vD (mOp addD (mOp mulD (Rd.ok (.int 69621)) (mBor 1)) (mOp fdivD (mBor 3) (Rd.ok (.int 41))))))
 (sSeq (sCells 0 (tgN 5) (sSet 4 (vD (mOp modD (mCallB intF (mCons (mOp addD (mOp addD (mOp mulD (mBor 4) (Rd.ok (.int 48271))) (mBor 5)) (mBor 1)) mNil)) (mBor 3)))))
 (sSet 2 (vD (mOp addD (mOp mulD (mBor 2) (Rd.ok (.int 2147483659))) (mOp modD (mCallB intF (mCons (mOp powD (mBor 4) (Rd.ok (.int 5))) mNil)) (mBor 3))))))) (ps.map .int) [some .st, some (.d (.int t)), some (.d (.int fnd)), x3, x4, x5] G = some (.nx [some .st, some (.d (.int t)), some (.d (.int f')), y3, y4, y5], G)
  | [], _, fnd, x3, x4, x5 => ⟨fnd, x3, x4, x5, rfl⟩
  | p :: ps, hps, fnd, x3, x4, x5 => by
    obtain ⟨hp, hp2⟩ := hps p List.mem_cons_self
    obtain ⟨b', c', h1, h2, h3⟩ := mixCells p hp t fnd G G.cs (69621 * t + p / 41) x5
    have hb : b'.natAbs < 2 ^ 64 := by
      by_cases hc : G.cs = []
      · have := h2 hc
        have : 0 ≤ p / 41 := Int.ediv_nonneg (by omega) (by omega)
        have : p / 41 ≤ p := Int.ediv_le_self _ (by omega)
        omega
      · have := h3 hc
        omega
    obtain ⟨f', y3, y4, y5, ih⟩ := mixFor t ht ht2 G ps (fun q hq => hps q (List.mem_cons_of_mem _ hq)) (fnd * 2147483659 + (b' ^ (5 : Int).toNat) % p) (some (.d (.int p))) (some (.d (.int b'))) c'
    refine ⟨f', y3, y4, y5, ?_⟩
    rw [List.map_cons]
    unfold forRun
    simp only [tgN, Option.bind, List.set_cons_succ, List.set_cons_zero]
    have e1 : (sSet 4 (vD (mOp addD (mOp mulD (Rd.ok (.int 69621)) (mBor 1)) (mOp fdivD (mBor 3) (Rd.ok (.int 41)))))) [some .st, some (.d (.int t)), some (.d (.int fnd)), some (.d (.int p)), x4, x5] G = some (.nx [some .st, some (.d (.int t)), some (.d (.int fnd)), some (.d (.int p)), some (.d (.int (69621 * t + p / 41))), x5], G) := by
      simp [sSet, rdS, vD, mOp, mBor, Rd.bind, Rd.ok, Rd.lift, mulD, addD, fdivD]
    have e2 : (sCells 0 (tgN 5) (sSet 4 (vD (mOp modD (mCallB intF (mCons (mOp addD (mOp addD (mOp mulD (mBor 4) (Rd.ok (.int 48271))) (mBor 5)) (mBor 1)) mNil)) (mBor 3))))) [some .st, some (.d (.int t)), some (.d (.int fnd)), some (.d (.int p)), some (.d (.int (69621 * t + p / 41))), x5] G = some (.nx [some .st, some (.d (.int t)), some (.d (.int fnd)), some (.d (.int p)), some (.d (.int b')), c'], G) := h1
    have q1 : powD (.int b') (.int 5) = some (.int (b' ^ (5 : Int).toNat)) := pow_ok ⟨by decide, by decide, hb⟩
    have q2 : mulD (.int fnd) (.int 2147483659) = some (.int (fnd * 2147483659)) := mul_okR (by decide)
    have q3 : modD (.int (b' ^ (5 : Int).toNat)) (.int p) = some (.int ((b' ^ (5 : Int).toNat) % p)) := mod_ok hp
    have e3 : (sSet 2 (vD (mOp addD (mOp mulD (mBor 2) (Rd.ok (.int 2147483659))) (mOp modD (mCallB intF (mCons (mOp powD (mBor 4) (Rd.ok (.int 5))) mNil)) (mBor 3))))) [some .st, some (.d (.int t)), some (.d (.int fnd)), some (.d (.int p)), some (.d (.int b')), c'] G = some (.nx [some .st, some (.d (.int t)), some (.d (.int (fnd * 2147483659 + (b' ^ (5 : Int).toNat) % p))), some (.d (.int p)), some (.d (.int b')), c'], G) := by
      simp only [sSet, rdS, vD, mOp, mBor, mCallB, mCons, mNil, Rd.bind, Rd.ok, Rd.lift, q1, q2, q3, addD, intF, Option.map, List.getElem?_cons_succ, List.getElem?_cons_zero, List.set_cons_succ, List.set_cons_zero]
    simp only [sSeq, e1, e2, e3]
    exact ih
theorem mixed_ok (p1 p2 p3 p4 : Int) (h1 : 0 < p1 ∧ p1 < 2 ^ 40) (h2 : 0 < p2 ∧ p2 < 2 ^ 40) (h3 : 0 < p3 ∧ p3 < 2 ^ 40) (h4 : 0 < p4 ∧ p4 < 2 ^ 40) (G : Rng) (ht : 0 ≤ G.t) (ht2 : G.t < 2 ^ 39) : ∃ v, fnD 6 (mMixed p1 p2 p3 p4) [.st] G = some (.ret (.int v), { G with t := G.t + 1 }) := by
  obtain ⟨f', y3, y4, y5, e⟩ := mixFor (G.t + 1) (by omega) (by omega) { G with t := G.t + 1 } [p1, p2, p3, p4] (by simp only [List.mem_cons, List.not_mem_nil, or_false]; rintro p (rfl | rfl | rfl | rfl) <;> assumption) 0 none none none
  refine ⟨f', ?_⟩
  have hz : ([PyData.int p1, .int p2, .int p3, .int p4]).length ≤ 100000 := by simp
  have l1 : (mIt (mLst (mCons (Rd.ok (.int p1)) (mCons (Rd.ok (.int p2)) (mCons (Rd.ok (.int p3)) (mCons (Rd.ok (.int p4)) mNil)))))) [some .st, some (.d (.int (G.t + 1))), some (.d (.int 0)), none, none, none] { G with t := G.t + 1 } = some (.ok [.int p1, .int p2, .int p3, .int p4], { G with t := G.t + 1 }) := by
    simp only [mIt, mLst, mCons, mNil, Rd.bind, Rd.ok, Rd.lift, hz, if_true, Option.map, itemsOf]
  unfold fnD mMixed
  have a1 : argE 6 [.st] = [some .st, none, none, none, none, none] := rfl
  rw [a1]
  have s1 : (sPar 1 2 (vD (mOp addD (mStT 0) (Rd.ok (.int 1)))) (vD (Rd.ok (.int 0)))) [some .st, none, none, none, none, none] G = some (.nx [some .st, some (.d (.int (G.t + 1))), some (.d (.int 0)), none, none, none], G) := by
    simp only [sPar, rdS, vD, mOp, mStT, Rd.bind, Rd.ok, Rd.lift, addD, Option.map, List.getElem?_cons_zero, List.set_cons_succ, List.set_cons_zero]
  have s2 : (sStT 0 (mVar 1)) [some .st, some (.d (.int (G.t + 1))), some (.d (.int 0)), none, none, none] G = some (.nx [some .st, some (.d (.int (G.t + 1))), some (.d (.int 0)), none, none, none], { G with t := G.t + 1 }) := by
    simp only [sStT, rdS, mVar, List.getElem?_cons_zero, List.getElem?_cons_succ]
  have s4 : (sRet (mVar 2)) [some .st, some (.d (.int (G.t + 1))), some (.d (.int f')), y3, y4, y5] { G with t := G.t + 1 } = some (.ret (.int f'), { G with t := G.t + 1 }) := by
    simp only [sRet, rdS, mVar, List.getElem?_cons_zero, List.getElem?_cons_succ]
  simp only [sSeq, s1, s2, sFor]
  unfold rdS at *
  rw [l1]
  simp only [List.map_cons, List.map_nil, sSeq] at e
  simp only [e, s4]
/-- few turns so far -/
def Rok (n : Nat) (G : Rng) : Prop := 0 ≤ G.t ∧ G.t ≤ n
theorem Rok.mono {n m : Nat} {G : Rng} (h : Rok n G) (hn : n ≤ m) : Rok m G := ⟨h.1, by have := h.2; omega⟩
/-- a draw -/
def DrawOk (F : Fd) : Prop := ∀ (G : Rng) (n : Nat) (room : Int), Rok n G → n < 2 ^ 38 → 0 < room → room < 1073741824 → ∃ v G', F [.st, .d (.int room)] G = some (.ret (.int v), G') ∧ 0 ≤ v ∧ v < room ∧ Rok (n + 1) G'
theorem draw_ok (p1 p2 p3 p4 : Int) (h1 : 0 < p1 ∧ p1 < 2 ^ 40) (h2 : 0 < p2 ∧ p2 < 2 ^ 40) (h3 : 0 < p3 ∧ p3 < 2 ^ 40) (h4 : 0 < p4 ∧ p4 < 2 ^ 40) : DrawOk (fnD 3 (mDraw (fnD 6 (mMixed p1 p2 p3 p4)))) := by
  intro G n room hG hn hr1 hr2
  have a1 : argE 3 [.st, .d (.int room)] = [some .st, some (.d (.int room)), none] := rfl
  have tail : ∀ G1 : Rng, (sSeq (sSet 2 (vD (mOp modD (mCallB intF (mCons (mStR 0) mNil)) (mBor 1)))) (sSeq (sStR 0 (mOp fdivD (mStR 0) (mBor 1))) (sRet (mVar 2)))) [some .st, some (.d (.int room)), none] G1 = some (.ret (.int (G1.r % room)), { G1 with r := G1.r / room }) := fun G1 => by
    have e1 : modD (.int G1.r) (.int room) = some (.int (G1.r % room)) := mod_ok hr1
    have e2 : fdivD (.int G1.r) (.int room) = some (.int (G1.r / room)) := fdiv_ok ⟨hr1, hr2⟩
    simp only [sSeq, sSet, sStR, sRet, rdS, vD, mOp, mCallB, mCons, mNil, mStR, mBor, mVar, Rd.bind, Rd.ok, Rd.lift, intF, e1, e2, Option.map, List.getElem?_cons_zero, List.getElem?_cons_succ, List.set_cons_succ, List.set_cons_zero]
  have hd : ∃ G1, (sIf (mT (mOp eqD (mStR 0) (Rd.ok (.int 0)))) (sStR 0 (mIfE (mGr 0) (mPop0 0) (mCallZ (fnD 6 (mMixed p1 p2 p3 p4)) (aSt 0 aNil)))) sNx) [some .st, some (.d (.int room)), none] G = some (.nx [some .st, some (.d (.int room)), none], G1) ∧ Rok (n + 1) G1 := by
    have t1 : (mT (mOp eqD (mStR 0) (Rd.ok (.int 0)))) [some .st, some (.d (.int room)), none] G = some (.ok (G.r == 0), G) := by
      simp only [mT, mOp, mStR, Rd.bind, Rd.ok, Rd.lift, eqD, SeqAt.shaped, PyData.canLay0, PyData.depth, Bool.true_and, Nat.zero_le, decide_true, Bool.and_self, if_true, PyData.eqv, asB, Option.map, List.getElem?_cons_zero]
    unfold sIf rdS
    rw [t1]
    by_cases h0 : (G.r == 0) = true
    · simp only [h0, if_true]
      cases hg : G.gs with
      | nil =>
        obtain ⟨v, hv⟩ := mixed_ok p1 p2 p3 p4 h1 h2 h3 h4 G hG.1 (by have := hG.2; omega)
        refine ⟨{ G with t := G.t + 1, r := v }, ?_, by have := hG.1; show 0 ≤ G.t + 1; omega, by have := hG.2; show G.t + 1 ≤ ((n + 1 : Nat) : Int); omega⟩
        simp only [sStR, rdS, mIfE, mGr, mCallZ, aSt, aNil, Rd.bind, Rd.ok, hg, List.isEmpty_nil, Bool.not_true, Bool.false_eq_true, if_false, outD, hv, List.getElem?_cons_zero]
      | cons v rs =>
        refine ⟨{ G with gs := rs, r := v }, ?_, hG.1, by have := hG.2; show G.t ≤ ((n + 1 : Nat) : Int); omega⟩
        simp only [sStR, rdS, mIfE, mGr, mPop0, Rd.bind, Rd.ok, hg, List.isEmpty_cons, Bool.not_false, if_true, List.getElem?_cons_zero]
    · simp only [h0]
      exact ⟨G, rfl, hG.1, by have := hG.2; omega⟩
  obtain ⟨G1, hd1, hd2⟩ := hd
  refine ⟨G1.r % room, { G1 with r := G1.r / room }, ?_, Int.emod_nonneg _ (by omega), Int.emod_lt_of_pos _ hr1, hd2⟩
  refine fnD_ret ?_
  rw [a1]
  unfold mDraw
  rw [sSeq_nx hd1, tail G1]

/-! ### _law_plain, _law_is -/
/-- plain data: no dict within, short lists -/
inductive Pl : Nat → PyData → Prop
  | non {j : Nat} : Pl (j + 1) .none
  | bool {j : Nat} {b : Bool} : Pl (j + 1) (.bool b)
  | int {j : Nat} {n : Int} : Pl (j + 1) (.int n)
  | str {j : Nat} {x : Str} : Pl (j + 1) (.str x)
  | list {j : Nat} {ds : List PyData} : ds.length ≤ 100000 → (∀ d ∈ ds, Pl j d) → Pl (j + 1) (.list ds)
  | tup {j : Nat} {ds : List PyData} : ds.length ≤ 100000 → (∀ d ∈ ds, Pl j d) → Pl (j + 1) (.tuple ds)
theorem plain_ok : ∀ {j : Nat} {d : PyData} (G : Rng), Pl j d → plainF j [.d d] G = some (.ret (.bool true), G)
  | 0, d, G, h => by cases h
  | j + 1, d, G, h => by
    have a1 : argE 2 [.d d] = [some (.d d), none] := rfl
    have seq : ∀ ds : List PyData, itemsOf d = some ds → ds.length ≤ 100000 → (∀ e ∈ ds, Pl j e) → (mOp eqD (mLc (mIt (mBor 0)) (tgN 1) (mNot (mT (mCallZ (plainF j) (aD (mVar 1) aNil)))) (Rd.ok (.int 1)) [1]) (mLst mNil)) [some (.d d), none] G = some (.ok (.bool true), G) := fun ds hi hz hp => by
      have e1 : (mLc (mIt (mBor 0)) (tgN 1) (mNot (mT (mCallZ (plainF j) (aD (mVar 1) aNil)))) (Rd.ok (.int 1)) [1]) [some (.d d), none] G = some (.ok (.list []), G) := by
        have e2 : (mIt (mBor 0)) [some (.d d), none] G = some (.ok ds, G) := by
          simp only [mIt, mBor, Rd.bind, Rd.lift, List.getElem?_cons_zero, hi, Option.map]
        have e3 := lcRun_pure (f := tgN 1) (tt := mNot (mT (mCallZ (plainF j) (aD (mVar 1) aNil)))) (te := Rd.ok (.int 1)) (E := wipeE [some (.d d), none] [1]) (G := G) (fun _ => false) (fun _ => .int 1) (ds := ds) fun e he => ⟨[some (.d d), some (.d e)], rfl, by
          have := plain_ok G (hp e he)
          simp only [mNot, mT, mCallZ, aD, aNil, mVar, Rd.bind, Rd.ok, Rd.lift, outD, this, asB, Option.map, List.getElem?_cons_zero, List.getElem?_cons_succ, Bool.not_true], fun z => by cases z⟩
        unfold mLc
        rw [Rd.bind_ok e2, if_pos hz, e3]
        simp
      simp only [mOp, Rd.bind, e1, mLst, mNil, Rd.ok, Rd.lift, eqD, shaped_nil, Bool.and_self, if_true, PyData.eqv, PyData.eqvAll, Option.map, List.length_nil, Nat.zero_le]
    refine fnD_ret ?_
    rw [a1]
    unfold mPlain
    cases h with
    | list hz hp =>
      have := seq _ rfl hz hp
      refine sSeq_ret ?_
      unfold sIf
      rw [rdS_ok (a := true) (G1 := G) (by rfl), if_pos rfl]
      unfold sRet
      rw [rdS_ok this]
    | tup hz hp =>
      have := seq _ rfl hz hp
      refine sSeq_ret ?_
      unfold sIf
      rw [rdS_ok (a := true) (G1 := G) (by rfl), if_pos rfl]
      unfold sRet
      rw [rdS_ok this]
    | non => rfl
    | bool => rfl
    | int => rfl
    | str => rfl
mutual
theorem eqv_refl : ∀ {d : PyData}, d.canLay0 = true → PyData.eqv d d = true
  | .none, _ => rfl
  | .bool b, _ => by simp [PyData.eqv]
  | .int n, _ => by simp [PyData.eqv]
  | .str x, _ => by simp [PyData.eqv]
  | .list ds, h => by simp only [PyData.eqv]; exact eqvAll_refl (by simpa [PyData.canLay0] using h)
  | .tuple ds, h => by simp only [PyData.eqv]; exact eqvAll_refl (by simpa [PyData.canLay0] using h)
  | .dict _, h => by simp [PyData.canLay0] at h
theorem eqvAll_refl : ∀ {ds : List PyData}, PyData.canLayAll0 ds = true → PyData.eqvAll ds ds = true
  | [], _ => rfl
  | d :: ds, h => by
    simp only [PyData.canLayAll0, Bool.and_eq_true] at h
    simp only [PyData.eqvAll, eqv_refl h.1, eqvAll_refl h.2, Bool.and_self]
end
theorem eq_str (x y : Str) : eqD (.str x) (.str y) = some (.bool (x == y)) := by
  unfold eqD
  split
  · simp [PyData.eqv]
  · rfl
theorem mT_ok {m : Rd PyData} {E : Evn} {G G1 : Rng} {b : Bool} (h : m E G = some (.ok (.bool b), G1)) : mT m E G = some (.ok b, G1) := by
  unfold mT
  rw [Rd.bind_ok h]
  rfl
theorem mOp_ok {g : PyData → PyData → Option PyData} {m1 m2 : Rd PyData} {E : Evn} {G G1 G2 : Rng} {a b c : PyData} (h1 : m1 E G = some (.ok a, G1)) (h2 : m2 E G1 = some (.ok b, G2)) (h : g a b = some c) : mOp g m1 m2 E G = some (.ok c, G2) := by
  unfold mOp
  rw [Rd.bind_ok h1, Rd.bind_ok h2]
  unfold Rd.lift
  rw [h]
  rfl
theorem mAndV_true {m1 m2 : Rd PyData} {E : Evn} {G G1 : Rng} {r : Except Exn PyData × Rng} (h1 : m1 E G = some (.ok (.bool true), G1)) (h2 : m2 E G1 = some r) : mAndV m1 m2 E G = some r := by
  unfold mAndV
  rw [Rd.bind_ok (mT_ok h1), if_pos rfl, h2]
/-- what may be handed to _law_is -/
def Isb (j : Nat) (d : PyData) : Prop := Pl j d ∧ SeqAt.shaped d = true ∧ d.showable = true ∧ d.shown.length ≤ 1000000
theorem is_ok {j : Nat} {d : PyData} (G : Rng) (h : Isb j d) : fIs j [.d d, .d d] G = some (.ret (.bool true), G) := by
  obtain ⟨h1, h2, h3, h4⟩ := h
  refine fnD_ret ?_
  have p1 := plain_ok G h1
  have e1 : PyData.eqv d d = true := eqv_refl (SeqAt.canLay_of_shaped h2)
  have a1 : argE 2 [.d d, .d d] = [some (.d d), some (.d d)] := rfl
  rw [a1]
  have hr : reprF [d] = some (.str d.shown) := by
    unfold reprF
    simp only [h2, h3, decide_eq_true h4, Bool.and_self, if_true]
  have he : eqD d d = some (.bool true) := by
    unfold eqD
    rw [if_pos (by rw [h2]; rfl), e1]
  have r : ∀ i, i < 2 → (mCallB reprF (mCons (mBor i) mNil)) [some (.d d), some (.d d)] G = some (.ok (.str d.shown), G) := fun i hi => by
    have : i = 0 ∨ i = 1 := by omega
    rcases this with rfl | rfl
    · simp only [mCallB, mCons, mNil, mBor, Rd.bind, Rd.ok, Rd.lift, List.getElem?_cons_zero, hr, Option.map]
    · simp only [mCallB, mCons, mNil, mBor, Rd.bind, Rd.ok, Rd.lift, List.getElem?_cons_zero, List.getElem?_cons_succ, hr, Option.map]
  have c : mCallZ (plainF j) (aD (mVar 0) aNil) [some (.d d), some (.d d)] G = some (.ok (.bool true), G) := by
    simp only [mCallZ, aD, aNil, mVar, Rd.bind, Rd.ok, List.getElem?_cons_zero, outD, p1]
  have b0 : mBor 0 [some (.d d), some (.d d)] G = some (.ok d, G) := rfl
  have b1 : mBor 1 [some (.d d), some (.d d)] G = some (.ok d, G) := rfl
  unfold mIs sRet
  rw [rdS_ok (a := .bool true) (G1 := G)]
  exact mAndV_true c (mAndV_true (mOp_ok b0 b1 he) (mAndV_true (mOp_ok b1 b0 he) (mOp_ok (r 0 (by omega)) (r 1 (by omega)) (by rw [eq_str]; simp))))
end Zd

set_option maxRecDepth 100000
set_option maxHeartbeats 4000000
namespace Zd
open PySem PySem.Spec L2
open PyProof.Rows hiding St

/-! ### loops, by an invariant -/
theorem for_inv {f : Tg} {mb : Sd} (I : Nat → Evn → Rng → Prop) : ∀ {ds : List PyData} {k : Nat} {E : Evn} {G : Rng}, I k E G → (∀ i d E G, ds[i]? = some d → I (k + i) E G → ∃ E1 E2 G2, f d E = some E1 ∧ mb E1 G = some (.nx E2, G2) ∧ I (k + i + 1) E2 G2) → ∃ E' G', forRun f mb ds E G = some (.nx E', G') ∧ I (k + ds.length) E' G'
  | [], k, E, G, h0, _ => ⟨E, G, rfl, h0⟩
  | d :: ds, k, E, G, h0, st => by
    obtain ⟨E1, E2, G2, h1, h2, h3⟩ := st 0 d E G rfl h0
    obtain ⟨E', G', h4, h5⟩ := for_inv I (ds := ds) (k := k + 1) (E := E2) (G := G2) h3 fun i d E G hi hI => by
      have := st (i + 1) d E G hi (by have e : k + 1 + i = k + (i + 1) := by omega
                                      rw [← e]; exact hI)
      have e : k + (i + 1) + 1 = k + 1 + i + 1 := by omega
      rwa [e] at this
    refine ⟨E', G', ?_, by rw [List.length_cons]; have e : k + 1 + ds.length = k + (ds.length + 1) := by omega
                           rw [← e]; exact h5⟩
    unfold forRun
    rw [h1]
    simp only [Option.bind, h2]
    exact h4
theorem wh_inv {c : Rd Bool} {mb : Sd} (I : Nat → Evn → Rng → Prop) (P : Evn → Rng → Prop) (st : ∀ n E G, I n E G → (∃ G1, c E G = some (.ok false, G1) ∧ P E G1) ∨ ∃ G1 E2 G2 m, c E G = some (.ok true, G1) ∧ mb E G1 = some (.nx E2, G2) ∧ m < n ∧ I m E2 G2) {n : Nat} {E : Evn} {G : Rng} (h0 : I n E G) : ∃ E' G', sWh c mb E G = some (.nx E', G') ∧ P E' G' := by
  have run : ∀ n E G, I n E G → ∃ k E' G', whRun c mb k E G = some (.nx E', G') ∧ P E' G' := by
    intro n
    induction n using Nat.strongRecOn with
    | _ n ih =>
      intro E G h
      rcases st n E G h with ⟨G1, h1, h2⟩ | ⟨G1, E2, G2, m, h1, h2, h3, h4⟩
      · refine ⟨1, E, G1, ?_, h2⟩
        unfold whRun
        rw [rdS_ok h1]
        rfl
      · obtain ⟨k, E', G', h5, h6⟩ := ih m h3 E2 G2 h4
        refine ⟨k + 1, E', G', ?_, h6⟩
        unfold whRun
        rw [rdS_ok h1]
        simp only [if_true, h2]
        exact h5
  obtain ⟨k, E', G', h1, h2⟩ := run n E G h0
  exact ⟨E', G', sWh_iff.mpr ⟨k, h1⟩, h2⟩

/-! ### readers, step by step -/
theorem sIf_true {c : Rd Bool} {a b : Sd} {E : Evn} {G G1 : Rng} (h : c E G = some (.ok true, G1)) : sIf c a b E G = a E G1 := by unfold sIf; rw [rdS_ok h]; rfl
theorem sIf_false {c : Rd Bool} {a b : Sd} {E : Evn} {G G1 : Rng} (h : c E G = some (.ok false, G1)) : sIf c a b E G = b E G1 := by unfold sIf; rw [rdS_ok h]; rfl
theorem mOr_false {a b : Rd Bool} {E : Evn} {G G1 : Rng} {r : Except Exn Bool × Rng} (h : a E G = some (.ok false, G1)) (h2 : b E G1 = some r) : mOr a b E G = some r := by unfold mOr; rw [Rd.bind_ok h, if_neg (by simp)]; exact h2
theorem mOr_true {a b : Rd Bool} {E : Evn} {G G1 : Rng} (h : a E G = some (.ok true, G1)) : mOr a b E G = some (.ok true, G1) := by unfold mOr; rw [Rd.bind_ok h, if_pos rfl]; rfl
theorem mAnd_true {a b : Rd Bool} {E : Evn} {G G1 : Rng} {r : Except Exn Bool × Rng} (h : a E G = some (.ok true, G1)) (h2 : b E G1 = some r) : mAnd a b E G = some r := by unfold mAnd; rw [Rd.bind_ok h, if_pos rfl]; exact h2
theorem mAnd_false {a b : Rd Bool} {E : Evn} {G G1 : Rng} (h : a E G = some (.ok false, G1)) : mAnd a b E G = some (.ok false, G1) := by unfold mAnd; rw [Rd.bind_ok h, if_neg (by simp)]; rfl
theorem mNot_ok {a : Rd Bool} {E : Evn} {G G1 : Rng} {k : Bool} (h : a E G = some (.ok k, G1)) : mNot a E G = some (.ok (!k), G1) := by unfold mNot; rw [Rd.bind_ok h]; rfl
theorem mCons_ok {m : Rd PyData} {ms : Rd (List PyData)} {E : Evn} {G G1 G2 : Rng} {d : PyData} {ds : List PyData} (h1 : m E G = some (.ok d, G1)) (h2 : ms E G1 = some (.ok ds, G2)) : mCons m ms E G = some (.ok (d :: ds), G2) := by unfold mCons; rw [Rd.bind_ok h1, Rd.bind_ok h2]; rfl
theorem mNil_ok {E : Evn} {G : Rng} : mNil E G = some (.ok [], G) := rfl
theorem mCallB_ok {g : List PyData → Option PyData} {ms : Rd (List PyData)} {E : Evn} {G G1 : Rng} {ds : List PyData} {d : PyData} (h1 : ms E G = some (.ok ds, G1)) (h : g ds = some d) : mCallB g ms E G = some (.ok d, G1) := by unfold mCallB; rw [Rd.bind_ok h1]; unfold Rd.lift; rw [h]; rfl
theorem mCall1_ok {g : List PyData → Option PyData} {m : Rd PyData} {E : Evn} {G G1 : Rng} {a d : PyData} (h1 : m E G = some (.ok a, G1)) (h : g [a] = some d) : mCallB g (mCons m mNil) E G = some (.ok d, G1) := mCallB_ok (mCons_ok h1 mNil_ok) h
theorem mTup_ok {ms : Rd (List PyData)} {E : Evn} {G G1 : Rng} {ds : List PyData} (h1 : ms E G = some (.ok ds, G1)) (h : ds.length ≤ 100000) : mTup ms E G = some (.ok (.tuple ds), G1) := by unfold mTup; rw [Rd.bind_ok h1]; unfold Rd.lift; rw [if_pos h]; rfl
theorem mLst_ok {ms : Rd (List PyData)} {E : Evn} {G G1 : Rng} {ds : List PyData} (h1 : ms E G = some (.ok ds, G1)) (h : ds.length ≤ 100000) : mLst ms E G = some (.ok (.list ds), G1) := by unfold mLst; rw [Rd.bind_ok h1]; unfold Rd.lift; rw [if_pos h]; rfl
theorem aD_ok {m : Rd PyData} {ms : Rd (List EV)} {E : Evn} {G G1 G2 : Rng} {d : PyData} {ds : List EV} (h1 : m E G = some (.ok d, G1)) (h2 : ms E G1 = some (.ok ds, G2)) : aD m ms E G = some (.ok (.d d :: ds), G2) := by unfold aD; rw [Rd.bind_ok h1, Rd.bind_ok h2]; rfl
theorem aNil_ok {E : Evn} {G : Rng} : aNil E G = some (.ok [], G) := rfl
theorem aSt_ok {i : Nat} {ms : Rd (List EV)} {E : Evn} {G G1 : Rng} {ds : List EV} (h : E[i]? = some (some .st)) (h1 : ms E G = some (.ok ds, G1)) : aSt i ms E G = some (.ok (.st :: ds), G1) := by unfold aSt; rw [h]; simp only; rw [Rd.bind_ok h1]; rfl
theorem mCallZ_ok {F : Fd} {ms : Rd (List EV)} {E : Evn} {G G1 G2 : Rng} {as : List EV} {d : PyData} (h1 : ms E G = some (.ok as, G1)) (h2 : F as G1 = some (.ret d, G2)) : mCallZ F ms E G = some (.ok d, G2) := by unfold mCallZ; rw [Rd.bind_ok h1]; unfold outD; rw [h2]
theorem mCallKZ_ok {F : Fd} {π : List Nat} {ms mk : Rd (List EV)} {E : Evn} {G G1 G2 G3 : Rng} {as bs : List EV} {d : PyData} (h1 : ms E G = some (.ok as, G1)) (h2 : mk E G1 = some (.ok bs, G2)) (h3 : F (pickL π (as ++ bs)) G2 = some (.ret d, G3)) : mCallKZ F π ms mk E G = some (.ok d, G3) := by unfold mCallKZ; rw [Rd.bind_ok h1, Rd.bind_ok h2]; unfold outD; rw [h3]
theorem mIt_ok {m : Rd PyData} {E : Evn} {G G1 : Rng} {d : PyData} {ds : List PyData} (h : m E G = some (.ok d, G1)) (hi : itemsOf d = some ds) : mIt m E G = some (.ok ds, G1) := by unfold mIt; rw [Rd.bind_ok h]; unfold Rd.lift; rw [hi]; rfl
theorem mRange1_ok {m : Rd PyData} {E : Evn} {G G1 : Rng} {n : Nat} (h : m E G = some (.ok (.int n), G1)) (hn : n ≤ 100000) : mRange1 m E G = some (.ok ((List.range n).map fun (i : Nat) => PyData.int (i : Int)), G1) := by
  unfold mRange1
  rw [Rd.bind_ok h]
  unfold Rd.lift asI
  simp only [Option.bind]
  rw [if_pos (by omega)]
  simp [rangeD]
theorem mRange2_ok {m1 m2 : Rd PyData} {E : Evn} {G G1 G2 : Rng} {i j : Int} (h : m1 E G = some (.ok (.int i), G1)) (h2 : m2 E G1 = some (.ok (.int j), G2)) (hn : -100000 ≤ i ∧ i ≤ 100000 ∧ -100000 ≤ j ∧ j ≤ 100000) : mRange2 m1 m2 E G = some (.ok (rangeD i (j - i).toNat), G2) := by
  unfold mRange2
  rw [Rd.bind_ok h, Rd.bind_ok h2]
  unfold Rd.lift asI
  simp only [Option.bind]
  rw [if_pos hn]
  rfl
theorem mLc_ok {it : Rd (List PyData)} {f : Tg} {tt : Rd Bool} {te : Rd PyData} {vs : List Nat} {E : Evn} {G G1 G2 : Rng} {ds ys : List PyData} (h : it E G = some (.ok ds, G1)) (hz : ds.length ≤ 100000) (h2 : lcRun f tt te (wipeE E vs) ds G1 = some (ys, G2)) : mLc it f tt te vs E G = some (.ok (.list ys), G2) := by
  unfold mLc
  rw [Rd.bind_ok h, if_pos hz, h2]
  rfl
theorem fit_put {acc : List (PyData × PyData)} {k k' : GK} {v : PyData} (h : fitB acc k' = true) (l : likeG k k' = true) : fitB (putD acc k v) k' = true := by
  unfold fitB at h ⊢
  rw [List.all_eq_true] at h ⊢
  unfold putD
  split
  · intro p hp
    obtain ⟨q, h1, h2⟩ := List.mem_map.mp hp
    have := h q h1
    have e : (if keyOf q.1 = some k then (q.1, v) else q).1 = q.1 := by split <;> rfl
    rw [← h2, e]
    exact this
  · intro p hp
    rcases List.mem_append.mp hp with h1 | h1
    · exact h p h1
    · rw [List.mem_singleton.mp h1]
      simp only [keyOf_keyG]
      exact l
theorem dcRun_pure {f : Tg} {tt : Rd Bool} {tk tv : Rd PyData} {E : Evn} {G : Rng} (kf : PyData → GK) (h : PyData → PyData) : ∀ {ds : List PyData} {acc : List (PyData × PyData)}, (∀ d ∈ ds, ∀ e ∈ ds, likeG (kf d) (kf e) = true) → (∀ d ∈ ds, fitB acc (kf d) = true) → (∀ d ∈ ds, ∃ E1 y, f d E = some E1 ∧ tt E1 G = some (.ok true, G) ∧ tk E1 G = some (.ok y, G) ∧ keyOf y = some (kf d) ∧ tv E1 G = some (.ok (h d), G)) → dcRun f tt tk tv E ds acc G = some (ds.foldl (fun acc d => putD acc (kf d) (h d)) acc, G)
  | [], acc, _, _, _ => rfl
  | d :: ds, acc, lk, ft, hf => by
    obtain ⟨E1, y, h1, h2, h3, h4, h5⟩ := hf d List.mem_cons_self
    have ih := dcRun_pure kf h (ds := ds) (acc := putD acc (kf d) (h d)) (fun a ha b hb => lk a (List.mem_cons_of_mem _ ha) b (List.mem_cons_of_mem _ hb)) (fun a ha => fit_put (ft a (List.mem_cons_of_mem _ ha)) (lk d List.mem_cons_self a (List.mem_cons_of_mem _ ha))) fun e he => hf e (List.mem_cons_of_mem _ he)
    unfold dcRun
    rw [h1]
    simp only [Option.bind]
    rw [h2]
    simp only [if_true]
    rw [h3]
    simp only
    rw [h5]
    simp only
    rw [h4]
    simp only
    rw [if_pos (ft d List.mem_cons_self)]
    exact ih
theorem mDc_ok {it : Rd (List PyData)} {f : Tg} {tt : Rd Bool} {tk tv : Rd PyData} {vs : List Nat} {E : Evn} {G G1 G2 : Rng} {ds : List PyData} {ys : List (PyData × PyData)} (h : it E G = some (.ok ds, G1)) (hz : ds.length ≤ 100000) (h2 : dcRun f tt tk tv (wipeE E vs) ds [] G1 = some (ys, G2)) : mDc it f tt tk tv vs E G = some (.ok (.dict ys), G2) := by
  unfold mDc
  rw [Rd.bind_ok h, if_pos hz, h2]
  rfl
theorem sRet_ok {m : Rd PyData} {E : Evn} {G G1 : Rng} {d : PyData} (h : m E G = some (.ok d, G1)) : sRet m E G = some (.ret d, G1) := by unfold sRet; rw [rdS_ok h]
theorem sSet_ok {i : Nat} {m : Rd EV} {E : Evn} {G G1 : Rng} {d : EV} (h : m E G = some (.ok d, G1)) : sSet i m E G = some (.nx (E.set i (some d)), G1) := by unfold sSet; rw [rdS_ok h]
theorem vD_ok {m : Rd PyData} {E : Evn} {G G1 : Rng} {d : PyData} (h : m E G = some (.ok d, G1)) : vD m E G = some (.ok (.d d), G1) := by unfold vD; rw [Rd.bind_ok h]; rfl
theorem vF_ok {m : Rd PyData} {E : Evn} {G G1 : Rng} {d : PyData} (h : m E G = some (.ok d, G1)) : vF m E G = some (.ok (.own d), G1) := by unfold vF; rw [Rd.bind_ok h]; rfl
theorem sAsg_ok {f : Tg} {m : Rd PyData} {E E1 : Evn} {G G1 : Rng} {d : PyData} (h : m E G = some (.ok d, G1)) (hf : f d E = some E1) : sAsg f m E G = some (.nx E1, G1) := by unfold sAsg; rw [rdS_ok h, hf]; rfl
theorem sFor_ok {mi : Rd (List PyData)} {f : Tg} {mb : Sd} {E : Evn} {G G1 : Rng} {ds : List PyData} (h : mi E G = some (.ok ds, G1)) : sFor mi f mb E G = forRun f mb ds E G1 := by unfold sFor; rw [rdS_ok h]
theorem mIfE_true {t : Rd Bool} {a b : Rd PyData} {E : Evn} {G G1 : Rng} (h : t E G = some (.ok true, G1)) : mIfE t a b E G = a E G1 := by unfold mIfE; rw [Rd.bind_ok h, if_pos rfl]
theorem mIfE_false {t : Rd Bool} {a b : Rd PyData} {E : Evn} {G G1 : Rng} (h : t E G = some (.ok false, G1)) : mIfE t a b E G = b E G1 := by unfold mIfE; rw [Rd.bind_ok h, if_neg (by simp)]
theorem sApp_ok {i : Nat} {m : Rd PyData} {E : Evn} {G G1 : Rng} {ds : List PyData} {d : PyData} (h : E[i]? = some (some (.own (.list ds)))) (h1 : m E G = some (.ok d, G1)) (hz : ds.length < 100000) : sApp i m E G = some (.nx (E.set i (some (.own (.list (ds ++ [d]))))), G1) := by
  unfold sApp onL
  rw [h]
  simp only
  rw [rdS_ok h1, if_pos hz]
theorem sFrz_own {i : Nat} {a : Sd} {E : Evn} {G : Rng} {d : PyData} (h : E[i]? = some (some (.own d))) : sFrz i a E G = a (E.set i (some (.d d))) G := by unfold sFrz; rw [h]
theorem sFrz_d {i : Nat} {a : Sd} {E : Evn} {G : Rng} {d : PyData} (h : E[i]? = some (some (.d d))) : sFrz i a E G = a E G := by unfold sFrz; rw [h]
theorem eq_ok {a b : PyData} (h1 : SeqAt.shaped a = true) (h2 : SeqAt.shaped b = true) : eqD a b = some (.bool (PyData.eqv a b)) := by unfold eqD; rw [if_pos (by rw [h1, h2]; rfl)]
theorem ne_ok {a b : PyData} (h1 : SeqAt.shaped a = true) (h2 : SeqAt.shaped b = true) : neD a b = some (.bool (!PyData.eqv a b)) := by unfold neD; rw [if_pos (by rw [h1, h2]; rfl)]
theorem ne_self {a : PyData} (h1 : SeqAt.shaped a = true) : neD a a = some (.bool false) := by rw [ne_ok h1 h1, eqv_refl (SeqAt.canLay_of_shaped h1)]; rfl
theorem shaped_intsT (ns : List Int) : SeqAt.shaped (.tuple (ns.map .int)) = true := by simp [SeqAt.shaped, PyData.canLay0, PyData.depth, can_ints, depth_ints]
theorem shaped_int (n : Int) : SeqAt.shaped (.int n) = true := by simp [SeqAt.shaped, PyData.canLay0, PyData.depth]

/-! ### lists of ints that rise -/
theorem rise_uniq : ∀ {l m : List Int}, l.Pairwise (· < ·) → m.Pairwise (· < ·) → (∀ x, x ∈ l ↔ x ∈ m) → l = m
  | [], [], _, _, _ => rfl
  | [], b :: m, _, _, h => by have := (h b).mpr List.mem_cons_self; cases this
  | a :: l, [], _, _, h => by have := (h a).mp List.mem_cons_self; cases this
  | a :: l, b :: m, hl, hm, h => by
    rw [List.pairwise_cons] at hl hm
    have e : a = b := by
      have h1 := (h a).mp List.mem_cons_self
      have h2 := (h b).mpr List.mem_cons_self
      rcases List.mem_cons.mp h1 with h1 | h1
      · exact h1
      · rcases List.mem_cons.mp h2 with h2 | h2
        · exact h2.symm
        · have q1 := hm.1 a h1
          have q2 := hl.1 b h2
          omega
    subst e
    rw [rise_uniq hl.2 hm.2 fun x => ?_]
    have hx := h x
    constructor
    · intro hx1
      have := hx.mp (List.mem_cons_of_mem _ hx1)
      rcases List.mem_cons.mp this with rfl | this
      · have := hl.1 _ hx1; omega
      · exact this
    · intro hx1
      have := hx.mpr (List.mem_cons_of_mem _ hx1)
      rcases List.mem_cons.mp this with rfl | this
      · have := hm.1 _ hx1; omega
      · exact this
theorem sort_rise {l : List Int} (h : l.Nodup) : (l.mergeSort fun a b => decide (a ≤ b)).Pairwise (· < ·) := by
  have h1 : (l.mergeSort fun a b => decide (a ≤ b)).Pairwise (fun a b => decide (a ≤ b) = true) := List.pairwise_mergeSort (fun a b c h1 h2 => by simp at *; omega) (fun a b => by simp; omega) l
  have h2 : (l.mergeSort fun a b => decide (a ≤ b)).Nodup := (List.mergeSort_perm l _).nodup_iff.mpr h
  have h3 := h1.and h2
  exact h3.imp fun {a b} ⟨q1, q2⟩ => by simp at q1; omega
theorem nodup_len : ∀ (n : Nat) (l : List Nat), l.Nodup → (∀ x ∈ l, x < n) → l.length ≤ n
  | 0, [], _, _ => Nat.le_refl _
  | 0, a :: l, _, h => by have := h a List.mem_cons_self; omega
  | n + 1, l, hd, h => by
    by_cases hn : n ∈ l
    · have h1 := List.length_erase_of_mem hn
      have h2 := nodup_len n (l.erase n) (hd.erase n) fun x hx => by
        have hx2 := h x (List.mem_of_mem_erase hx)
        have hx3 : x ≠ n := fun e => by
          subst e
          exact (List.Nodup.not_mem_erase hd) hx
        omega
      have h3 : 0 < l.length := List.length_pos_of_mem hn
      omega
    · have := nodup_len n l hd fun x hx => by
        have := h x hx
        have : x ≠ n := fun e => hn (e ▸ hx)
        omega
      omega
end Zd

set_option maxRecDepth 100000
set_option maxHeartbeats 4000000
namespace Zd
open PySem PySem.Spec L2
open PyProof.Rows hiding St

/-! ### ints and tuples of ints may be handed to _law_is -/
theorem weight_int {n : Int} (h : n.natAbs < 10 ^ 12) : (PyData.int n).weight ≤ 41 := by
  simp only [PyData.weight]
  split
  · omega
  · rename_i hn
    have h0 : n.natAbs ≠ 0 := by simpa using hn
    have p : (10 : Nat) ^ 12 < 2 ^ 40 := by decide
    have : n.natAbs.log2 < 40 := (Nat.log2_lt h0).mpr (Nat.lt_trans h p)
    omega
theorem weight_ints : ∀ ns : List Int, (∀ n ∈ ns, n.natAbs < 10 ^ 12) → PyData.weightAll (ns.map PyData.int) ≤ 42 * ns.length
  | [], _ => by simp [PyData.weightAll]
  | n :: ns, h => by
    have h1 := weight_int (h n List.mem_cons_self)
    have h2 := weight_ints ns fun m hm => h m (List.mem_cons_of_mem _ hm)
    simp only [List.map_cons, PyData.weightAll, List.length_cons]
    omega
theorem show_ints : ∀ ns : List Int, (∀ n ∈ ns, n.natAbs < 10 ^ 12) → PyData.showableAll (ns.map PyData.int) = true
  | [], _ => rfl
  | n :: ns, h => by
    have h1 : n.natAbs.log2 < 1920 := by
      have := h n List.mem_cons_self
      by_cases h0 : n.natAbs = 0
      · rw [h0]; decide
      · exact (Nat.log2_lt h0).mpr (Nat.lt_of_lt_of_le this (by decide))
    simp only [List.map_cons, PyData.showableAll, PyData.showable, decide_eq_true h1, show_ints ns fun m hm => h m (List.mem_cons_of_mem _ hm), Bool.and_self]
theorem isb_intsT {j : Nat} {ns : List Int} (hl : ns.length ≤ 1000) (h : ∀ n ∈ ns, n.natAbs < 10 ^ 12) : Isb (j + 2) (.tuple (ns.map .int)) := by
  refine ⟨.tup (by rw [List.length_map]; omega) fun d hd => ?_, shaped_intsT ns, by simp only [PyData.showable]; exact show_ints ns h, ?_⟩
  · obtain ⟨n, _, rfl⟩ := List.mem_map.mp hd
    exact .int
  · have c : (PyData.tuple (ns.map .int)).canLay0 = true := by simp only [PyData.canLay0]; exact can_ints ns
    have s := PyData.shown_le 13 (by decide) _ (PyData.leavesShort_of_canLay0 13 _ c (by simp only [PyData.intsShort]; exact PyData.intsShortAll_ints ns h))
    have w := weight_ints ns h
    simp only [PyData.weight] at s
    omega
theorem isb_int {j : Nat} {n : Int} (h : n.natAbs < 10 ^ 12) : Isb (j + 1) (.int n) := by
  refine ⟨.int, shaped_int n, ?_, ?_⟩
  · have := show_ints [n] (by simpa using h)
    simpa [PyData.showableAll] using this
  · have := PyData.shown_int_le h
    omega

/-! ### sorted of ints, max of ints, in -/
theorem data_le (a b : Int) : PySem.W.dataLe false id (PyData.int a) (PyData.int b) = decide (a ≤ b) := by
  unfold PySem.W.dataLe
  rw [Bool.eq_iff_iff]
  simp [PySem.W.sortLe, PySem.W.keyToks, PyProof.Rows.lexLt, PyProof.Rows.itemLt]
theorem sort_ints (ns : List Int) : sortF [.list (ns.map .int)] = some (.list ((ns.mergeSort fun a b => decide (a ≤ b)).map .int)) := by
  have h1 : alikeB (ns.map .int) = true := by
    unfold alikeB
    rw [List.all_eq_true]
    intro d hd
    rw [List.all_eq_true]
    intro e he
    obtain ⟨a, _, rfl⟩ := List.mem_map.mp hd
    obtain ⟨b, _, rfl⟩ := List.mem_map.mp he
    rfl
  have h2 : sortableB (ns.map .int) = true := by
    unfold sortableB
    rw [Bool.or_eq_true]
    right
    rw [List.all_eq_true]
    intro d hd
    obtain ⟨a, _, rfl⟩ := List.mem_map.mp hd
    rfl
  have h3 : (ns.map PyData.int).all SeqAt.shaped = true := by
    rw [List.all_eq_true]
    intro d hd
    obtain ⟨a, _, rfl⟩ := List.mem_map.mp hd
    exact shaped_int a
  unfold sortF
  simp only
  rw [if_pos (by rw [h1, h2, h3]; rfl)]
  have := List.map_mergeSort (r := fun a b : Int => decide (a ≤ b)) (s := PySem.W.dataLe false id) (f := PyData.int) (l := ns) fun a _ b _ => (data_le a b).symm
  rw [this]
theorem in_ints (x : Int) (l : List Int) : inD (.int x) (.list (l.map .int)) = some (.bool (decide (x ∈ l))) := by
  have e : ((l.map PyData.int).any fun z => PyData.eqv z (.int x)) = decide (x ∈ l) := by
    rw [List.any_map, Bool.eq_iff_iff]
    simp only [List.any_eq_true, Function.comp_apply, PyData.eqv, beq_iff_eq, decide_eq_true_eq]
    exact ⟨fun ⟨y, hy, h⟩ => h ▸ hy, fun h => ⟨x, h, rfl⟩⟩
  unfold inD
  have : inB (.int x) (.list (l.map .int)) = some (decide (x ∈ l)) := by
    show (if _ then _ else _) = _
    rw [if_pos (by rw [shaped_int, shaped_ints]; rfl), e]
  rw [this]
  rfl
theorem ints_of (ns : List Int) : intsOf (ns.map .int) = some ns := by
  induction ns with
  | nil => rfl
  | cons n ns ih => rw [List.map_cons]; unfold intsOf; rw [ih]; rfl
theorem foldl_max : ∀ (l : List Int) (a : Int), a ≤ l.foldl max a ∧ (∀ x ∈ l, x ≤ l.foldl max a) ∧ (l.foldl max a = a ∨ l.foldl max a ∈ l)
  | [], a => ⟨Int.le_refl _, (fun _ h => by cases h), .inl rfl⟩
  | b :: l, a => by
    obtain ⟨h1, h2, h3⟩ := foldl_max l (max a b)
    rw [List.foldl_cons]
    refine ⟨by omega, fun x hx => ?_, ?_⟩
    · rcases List.mem_cons.mp hx with rfl | hx
      · omega
      · exact h2 x hx
    · rcases h3 with h3 | h3
      · rw [h3]
        by_cases h : a ≤ b
        · right; rw [Int.max_eq_right h]; simp
        · left; exact Int.max_eq_left (by omega)
      · exact .inr (List.mem_cons_of_mem _ h3)
theorem max_ok {l : List Int} {m : Int} (hm : m ∈ l) (h : ∀ x ∈ l, x ≤ m) : maxI l = some m := by
  cases l with
  | nil => cases hm
  | cons a l =>
    obtain ⟨h1, h2, h3⟩ := foldl_max l a
    have hr : l.foldl max a ∈ a :: l := by
      rcases h3 with h3 | h3
      · rw [h3]; simp
      · exact List.mem_cons_of_mem _ h3
    have := h _ hr
    have : m ≤ l.foldl max a := by
      rcases List.mem_cons.mp hm with rfl | hm
      · exact h1
      · exact h2 m hm
    show some (l.foldl max a) = some m
    rw [show l.foldl max a = m by omega]
theorem maxF_ok {l : List Int} {m : Int} (hm : m ∈ l) (h : ∀ x ∈ l, x ≤ m) : maxF [.list (l.map .int)] = some (.int m) := by
  show (intsOf (l.map .int)).bind _ = _
  rw [ints_of]
  simp only [Option.bind]
  rw [max_ok hm h]
  rfl
/-- a dict put together: what it knows -/
theorem getD_put (kvs : List (PyData × PyData)) (k k' : GK) (d : PyData) : (getD (putD kvs k d) k').isSome = (decide (k = k') || (getD kvs k').isSome) := by
  unfold putD
  split
  · rename_i h
    have go : ∀ l : List (PyData × PyData), (getD (l.map fun p => if keyOf p.1 = some k then (p.1, d) else p) k').isSome = (getD l k').isSome := fun l => by
      induction l with
      | nil => rfl
      | cons p l ih =>
        unfold getD at ih ⊢
        rw [List.map_cons]
        by_cases hp : keyOf p.1 = some k' 
        · have : keyOf (if keyOf p.1 = some k then (p.1, d) else p).1 = some k' := by split <;> exact hp
          rw [List.find?_cons_of_pos (by simpa using this), List.find?_cons_of_pos (by simpa using hp)]
          rfl
        · have : ¬ keyOf (if keyOf p.1 = some k then (p.1, d) else p).1 = some k' := by split <;> exact hp
          rw [List.find?_cons_of_neg (by simpa using this), List.find?_cons_of_neg (by simpa using hp)]
          exact ih
    rw [go]
    by_cases hk : k = k'
    · subst hk
      simp only [decide_true, Bool.true_or]
      unfold getD
      rw [List.any_eq_true] at h
      obtain ⟨p, h1, h2⟩ := h
      rw [Option.isSome_map, List.find?_isSome]
      exact ⟨p, h1, h2⟩
    · simp [hk]
  · unfold getD
    rw [List.find?_append]
    by_cases hk : k = k'
    · subst hk
      simp [keyOf_keyG]
    · have : ¬ some k = some k' := fun e => hk (Option.some.inj e)
      simp [keyOf_keyG, this, hk]
theorem getD_fold (kf : PyData → GK) (h : PyData → PyData) (k' : GK) : ∀ (ds : List PyData) (acc : List (PyData × PyData)), (getD (ds.foldl (fun acc d => putD acc (kf d) (h d)) acc) k').isSome = ((ds.any fun d => decide (kf d = k')) || (getD acc k').isSome)
  | [], acc => rfl
  | d :: ds, acc => by
    rw [List.foldl_cons, getD_fold kf h k' ds, getD_put, List.any_cons]
    cases (ds.any fun d => decide (kf d = k')) <;> cases decide (kf d = k') <;> cases (getD acc k').isSome <;> rfl
end Zd

set_option maxRecDepth 100000
set_option maxHeartbeats 4000000
namespace Zd
open PySem PySem.Spec L2
open PyProof.Rows hiding St
section
variable {P : Program} {w : World} {A : Around} {E : Value → Shared → Prop} {s : Shared}
/-- an empty set as it is made -/
abbrev set0 (w : World) : Obj := { cls := .type "set", dict := none, data := .set #[] 0 (.fresh 0 0 (!w.params.followText "set-order")) }
set_option maxRecDepth 100000 in
set_option maxHeartbeats 3200000 in
/-- set(l), l a list of ints: turned from the tuple's case -/
theorem call_set_lstI {l : Addr} {items : Array Value} (ns : List Int) {Q : Value → Shared → Prop} (hh : A.handled = none) (hl : s.heap.IsList l items) (hit : IntsAre items.toList ns) (hb : ns.length + 1 < scanBound)
    (h : ∀ (h' : Heap) (tk c : Nat), SetR w h' s.heap.objs.size (fun j => decide (j ∈ ns)) c → c ≤ ns.length → (∀ b o, s.heap.get? b = some o → h'.get? b = some o) → Q (.ref s.heap.objs.size) { s with heap := h', toks := tk }) :
    wpAny (model P w) A (call (.type "set") [.ref l]) Q E s := by
  have hisz : items.size = ns.length := by
    have q := IntsAre.length hit
    rw [Array.length_toList] at q
    exact q
  obtain ⟨c, tl, hmro⟩ := F.called_set.mro
  have hmade := F.called_set.made
  have hsub := F.called_set.sub
  refine wpAny_call (codeAny_of_tree ?_)
  show wpAny _ _ (callAny (.type "set") _) _ _ _
  refine wpAny_pure ⟨Code.quiet_builtin _ (by decide +kernel), codeAny_builtin F.entry_type_call ?_⟩
  rw [Around.under_plain (weight_type_call_type "set" [.ref l] []) rfl]
  have h1 := F.called_set.notType
  have h2 := F.called_set.canCreate
  have hct := F.typeCall_set_1 (.ref l)
  repeat (any_goals (first | assumption | wp_step))
  refine codeAny_mono (code_set_led1 (.ref l) (E := E) (Q₁ := fun obj s₁ => obj = .ref s.heap.objs.size ∧ s₁ = { s with heap := s.heap.push (set0 w) }) ⟨rfl, rfl⟩) fun r s₁ hr => ?_
  cases r with
  | error e => exact hr
  | ok fl =>
    cases fl with
    | ret obj =>
      obtain ⟨rfl, rfl⟩ := hr
      have hS : (s.heap.push (set0 w)).get? s.heap.objs.size = some (set0 w) := Heap.get?_push_size _ rfl
      have hT : Shared.TypeIs { s with heap := s.heap.push (set0 w) } (.ref s.heap.objs.size) "set" := ⟨_, hS, rfl⟩
      have hli := F.called_set.init.lookup
      have hbi := F.called_set.init.bind (.ref s.heap.objs.size)
      repeat (any_goals (first | assumption | wp_step))
      refine codeAny_mono (codeAny_call_builtin (R := wants (fun r s₂ => r = .none ∧ ∃ h' tk c, s₂ = { s with heap := h', toks := tk } ∧ SetR w h' s.heap.objs.size (fun j => decide (j ∈ ns)) c ∧ c ≤ ns.length ∧
          (∀ b o, s.heap.get? b = some o → h'.get? b = some o)) E) F.called_set.init.plain F.entry_set_init (check_set_init_1 hT ?_)) fun r₂ s₂ hr₂ => ?_
      · obtain ⟨ol, hol, hcl, nl, hdl⟩ := hl
        obtain ⟨ocls, odict, odata, oslots⟩ := ol
        simp only at hcl hdl
        subst hcl; subst hdl
        have hol' : (s.heap.push (set0 w)).get? l = some { cls := .type "list", dict := odict, data := .seq items nl, slots := oslots } := Heap.get?_push_of_some _ hol
        have hsls := F.sub_list_set
        have hslf := F.sub_list_frozenset
        have hne : (Value.type "list" == Value.type "dict") = false := by decide
        have hl1 : (s.heap.push (set0 w)).IsList l items := ⟨_, hol', rfl, nl, rfl⟩
        unfold Builtin.«set.__init__» noKeywords Builtin.Frozenset.updateFrom
        generalize hPI : pyIter = PI
        wp_walk
        subst hPI
        refine wpAny_pyIter_list hl1 ?_
        refine wpAny_bind (wpAny_runValue ?_)
        have hlS : l < s.heap.objs.size := Heap.lt_size hol
        have hh3 : A.in1.in1.in1.handled = none := by simp [hh]
        have hneI : l ≠ (s.heap.push (set0 w)).objs.size := by
          rw [Heap.size_push]; exact Nat.ne_of_lt (Nat.lt_succ_of_lt hlS)
        have hSf : s.heap.objs.size ∉ [(s.heap.push (set0 w)).objs.size, l] := by
          rw [Heap.size_push]; simp only [List.mem_cons, List.mem_singleton, List.not_mem_nil, or_false, not_or]
          exact ⟨Nat.ne_of_lt (Nat.lt_succ_self _), Nat.ne_of_gt hlS⟩
        have hval : ∀ (i : Nat) (v : Value), items[i]? = some v → ∃ k t, ns[i]? = some k ∧ v = .int k t := fun i v hv => by
          have hi : i < ns.length := by rw [← hisz]; exact (Array.getElem?_eq_some_iff.mp hv).1
          obtain ⟨t, e⟩ := PyProof.Rows.IntsAre.int_at hit i v (by rw [Array.getElem?_toList]; exact hv)
          refine ⟨ns[i], t, List.getElem?_eq_getElem hi, ?_⟩
          rw [e, List.getD_eq_getElem?_getD, List.getElem?_eq_getElem hi] <;> rfl
        refine set_update_ints ((Walks.list hh3 _ l hneI items).toS) s.heap.objs.size
          hSf ns hisz hb hval (items.size - 0) 0 _ (by omega) (Nat.zero_le _)
          ⟨⟨_, Heap.get?_push_size _ rfl, rfl, rfl⟩, (hl1.push _)⟩ ?hS0 ?hR
        case hS0 => exact ⟨0, Nat.le_refl 0, setR_new_at (Heap.get?_push_of_some _ hS)⟩
        case hR =>
          intro s' c' hm hc' hS'
          obtain ⟨h', g2, d', tk', os'⟩ := s'
          have eg : g2 = s.gens := hm.gens
          have ed : d' = s.drawn := hm.drawn
          have eo : os' = s.os := hm.os
          subst eg; subst ed; subst eo
          show wpAny _ _ _ _ _ _
          refine wpAny_pure ?_
          show wpAny _ _ (ret Value.none) _ _ _
          rw [hisz] at hc'
          refine wpAny_pure ⟨rfl, h', tk', c', rfl, hS', hc', fun b o e => ?_⟩
          have hb0 : b < s.heap.objs.size := Heap.lt_size e
          have hb2 : b ≠ (s.heap.push (set0 w)).objs.size := by
            rw [Heap.size_push]; exact Nat.ne_of_lt (Nat.lt_succ_of_lt hb0)
          exact hm.heap b o (by simp only [List.mem_cons, List.mem_singleton, List.not_mem_nil, or_false, not_or]; exact ⟨Nat.ne_of_lt hb0, hb2⟩) (Heap.get?_push_of_some _ (Heap.get?_push_of_some _ e))
      · cases r₂ with
        | error e => exact hr₂
        | ok fl₂ =>
          cases fl₂ with
          | ret r =>
            obtain ⟨rfl, h', tk, c', rfl, hS', hc', hk'⟩ := hr₂
            repeat (any_goals (first | assumption | wp_step))
            exact h _ _ _ hS' hc' hk'
          | _ => exact hr₂.elim
    | _ => exact hr.elim
set_option maxRecDepth 100000 in
set_option maxHeartbeats 3200000 in
/-- set(t), t a tuple of tuples of ints: turned from the list's case -/
theorem call_set_tupTs {l : Addr} {items : Array Value} (ks : List (Addr × List Int)) {Q : Value → Shared → Prop} (hh : A.handled = none) (hl : s.heap.IsTuple l items) (hit : items.toList = ks.map fun p => Value.ref p.1)
    (hk : ∀ p ∈ ks, IsT P w s.heap p.2 p.1) (hfew : ks.length < 64) (hu : A.units + 3 < cLine)
    (h : ∀ (h' : Heap) (tk : Nat) L es ep t, SetTR P w h' s.heap.objs.size L es ep t → Got ks ks.length L → (∀ b o, s.heap.get? b = some o → h'.get? b = some o) → Q (.ref s.heap.objs.size) { s with heap := h', toks := tk }) :
    wpAny (model P w) A (call (.type "set") [.ref l]) Q E s := by
  have hisz : items.size = ks.length := by
    have q := congrArg List.length hit
    rwa [Array.length_toList, List.length_map] at q
  obtain ⟨c, tl, hmro⟩ := F.called_set.mro
  have hmade := F.called_set.made
  have hsub := F.called_set.sub
  refine wpAny_call (codeAny_of_tree ?_)
  show wpAny _ _ (callAny (.type "set") _) _ _ _
  refine wpAny_pure ⟨Code.quiet_builtin _ (by decide +kernel), codeAny_builtin F.entry_type_call ?_⟩
  rw [Around.under_plain (weight_type_call_type "set" [.ref l] []) rfl]
  have h1 := F.called_set.notType
  have h2 := F.called_set.canCreate
  have hct := F.typeCall_set_1 (.ref l)
  repeat (any_goals (first | assumption | wp_step))
  refine codeAny_mono (code_set_led1 (.ref l) (E := E) (Q₁ := fun obj s₁ => obj = .ref s.heap.objs.size ∧ s₁ = { s with heap := s.heap.push (set0 w) }) ⟨rfl, rfl⟩) fun r s₁ hr => ?_
  cases r with
  | error e => exact hr
  | ok fl =>
    cases fl with
    | ret obj =>
      obtain ⟨rfl, rfl⟩ := hr
      have hS : (s.heap.push (set0 w)).get? s.heap.objs.size = some (set0 w) := Heap.get?_push_size _ rfl
      have hT : Shared.TypeIs { s with heap := s.heap.push (set0 w) } (.ref s.heap.objs.size) "set" := ⟨_, hS, rfl⟩
      have hli := F.called_set.init.lookup
      have hbi := F.called_set.init.bind (.ref s.heap.objs.size)
      repeat (any_goals (first | assumption | wp_step))
      refine codeAny_mono (codeAny_call_builtin (R := wants (fun r s₂ => r = .none ∧ ∃ h' tk L es ep t, s₂ = { s with heap := h', toks := tk } ∧ SetTR P w h' s.heap.objs.size L es ep t ∧ Got ks ks.length L ∧
          (∀ b o, s.heap.get? b = some o → h'.get? b = some o)) E) F.called_set.init.plain F.entry_set_init (check_set_init_1 hT ?_)) fun r₂ s₂ hr₂ => ?_
      · obtain ⟨ol, hol, hcl, nl, hdl⟩ := hl
        obtain ⟨ocls, odict, odata, oslots⟩ := ol
        simp only at hcl hdl
        subst hcl; subst hdl
        have hol' : (s.heap.push (set0 w)).get? l = some { cls := .type "tuple", dict := odict, data := .seq items nl, slots := oslots } := Heap.get?_push_of_some _ hol
        have hsls := F.sub_tuple_set
        have hslf := F.sub_tuple_frozenset
        have hne : (Value.type "tuple" == Value.type "dict") = false := by decide
        have hl1 : (s.heap.push (set0 w)).IsTuple l items := ⟨_, hol', rfl, nl, rfl⟩
        unfold Builtin.«set.__init__» noKeywords Builtin.Frozenset.updateFrom
        generalize hPI : pyIter = PI
        wp_walk
        subst hPI
        refine wpAny_pyIter_tuple hl1 ?_
        refine wpAny_bind (wpAny_runValue ?_)
        have hlS : l < s.heap.objs.size := Heap.lt_size hol
        have hh3 : A.in1.in1.in1.handled = none := by simp [hh]
        have hneI : l ≠ (s.heap.push (set0 w)).objs.size := by
          rw [Heap.size_push]; exact Nat.ne_of_lt (Nat.lt_succ_of_lt hlS)
        have hSf : s.heap.objs.size ∉ [(s.heap.push (set0 w)).objs.size, l] := by
          rw [Heap.size_push]; simp only [List.mem_cons, List.mem_singleton, List.not_mem_nil, or_false, not_or]
          exact ⟨Nat.ne_of_lt (Nat.lt_succ_self _), Nat.ne_of_gt hlS⟩
        have hval : ∀ (i : Nat) (v : Value), items[i]? = some v → ∃ p, ks[i]? = some p ∧ v = .ref p.1 := fun i v hv => by
          rw [← Array.getElem?_toList, hit, List.getElem?_map] at hv
          obtain ⟨p, h1, h2⟩ := Option.map_eq_some_iff.mp hv
          exact ⟨p, h1, h2.symm⟩
        have none_of : ∀ b, s.heap.objs.size ≤ b → s.heap.get? b = none := fun b hb => by
          cases q : s.heap.get? b with
          | none => rfl
          | some o => exact absurd (Heap.lt_size q) (Nat.not_lt.mpr hb)
        refine set_update_tups ((Walks.tuple hh3 _ l hneI items).toS) s.heap.objs.size hSf ks hisz hfew hval s.heap hk (none_of _ (Nat.le_refl _)) (fun b hb => none_of b (by rw [List.mem_singleton.mp hb, Heap.size_push]; exact Nat.le_succ _)) hu (items.size - 0) 0 _ (by omega) (Nat.zero_le _)
          ⟨⟨_, Heap.get?_push_size _ rfl, rfl, rfl⟩, (hl1.push _)⟩ (fun b o e => Heap.get?_push_of_some _ (Heap.get?_push_of_some _ e)) ?hS0 ?hR
        case hS0 => exact ⟨[], #[], 0, _, setTR_fresh (Heap.get?_push_of_some _ hS), Got.zero ks⟩
        case hR =>
          intro s' L es ep t hm hS' g' hkp
          obtain ⟨h', g2, d', tk', os'⟩ := s'
          have eg : g2 = s.gens := hm.gens
          have ed : d' = s.drawn := hm.drawn
          have eo : os' = s.os := hm.os
          subst eg; subst ed; subst eo
          show wpAny _ _ _ _ _ _
          refine wpAny_pure ?_
          show wpAny _ _ (ret Value.none) _ _ _
          rw [hisz] at g'
          exact wpAny_pure ⟨rfl, h', tk', L, es, ep, t, rfl, hS', g', hkp⟩
      · cases r₂ with
        | error e => exact hr₂
        | ok fl₂ =>
          cases fl₂ with
          | ret r =>
            obtain ⟨rfl, h', tk, L, es, ep, t, rfl, hS', g', hk'⟩ := hr₂
            repeat (any_goals (first | assumption | wp_step))
            exact h _ _ _ _ _ _ hS' g' hk'
          | _ => exact hr₂.elim
    | _ => exact hr.elim
end
end Zd

set_option maxRecDepth 100000
set_option maxHeartbeats 4000000
namespace Zd
open PySem PySem.Spec L2
open PyProof.Rows hiding St

/-! ### sorted(set(xs)) -/
/-- a list or a tuple -/
abbrev SqX (K : PySem.W.Frag) (H : Hp) (a : Addr) (xs : List V) : Prop := SqL K H a xs ∨ SqT K H a xs
/-- set(xs), xs of ints -/
def rSetOfI (K : PySem.W.Frag) (w : World) : List V → Hp → VK → Prop := fun xs H Q => ∃ (l : Addr) (ns : List Int), xs = [V.ref l] ∧ SqX K H l (ns.map V.int) ∧ ns.length < 64 ∧
  ∀ a S n, H a = none → n < 64 → (∀ k : Int, S k = true ↔ k ∈ ns) → Q (.ref a) (upd H a (SetO w a S n))
section
variable {X : Cx} {C : Cn}
theorem cr_setOfI (hc : X.calm = true) : CallR X (.type "set") (rSetOfI X.K X.w) := by
  intro pins s σ H xs us Q I r h
  obtain ⟨l, ns, rfl, hl, hf, q⟩ := h
  rw [Vals.ref1 r]
  have hn : H s.heap.objs.size = none := I.hok.fresh (Nat.le_refl _)
  have fin : ∀ (h' : Heap) (tk c : Nat), SetR X.w h' s.heap.objs.size (fun j => decide (j ∈ ns)) c → c ≤ ns.length → (∀ b o, s.heap.get? b = some o → h'.get? b = some o) → EP X pins σ Q (.ref s.heap.objs.size) { s with heap := h', toks := tk } := fun h' tk c R hc2 hk =>
    ⟨.ref s.heap.objs.size, upd H s.heap.objs.size (SetO X.w s.heap.objs.size (fun j => decide (j ∈ ns)) c), I.laid (t' := tk) hk (Nat.le_refl _) (setO_new R), rfl, q _ _ c hn (by omega) fun k => by simp⟩
  rcases hl with hl | hl
  · obtain ⟨its, rv, pl, hz⟩ := I.list hl
    exact call_set_lstI (P := X.prog) (w := X.w) ns (I.ok.hd hc) pl.isList (by simpa using rv.ints) (by unfold scanBound; omega) fin
  · obtain ⟨its, rv, pt, hz⟩ := I.tuple hl
    exact call_set_tupI (P := X.prog) (w := X.w) ns (I.ok.hd hc) pt (by simpa using rv.ints) (by unfold scanBound; omega) fin
/-- set(xs), xs of tuples of ints -/
def rSetOfZ (K : PySem.W.Frag) (P : Program) (w : World) : List V → Hp → VK → Prop := fun xs H Q => ∃ (l : Addr) (ks : List (Addr × List Int)), xs = [V.ref l] ∧ SqX K H l (ks.map fun p => V.ref p.1) ∧ (∀ p ∈ ks, SqT K H p.1 (p.2.map V.int)) ∧ ks.length < 64 ∧
  ∀ a L, H a = none → (∀ p ∈ L, p ∈ ks) → (∀ p ∈ ks, p.2 ∈ L.map (·.2)) → Q (.ref a) (upd H a (SetTO P w a L))
theorem cr_setOfZ (hc : X.calm = true) (hu : X.A.units + 64 < cLine) : CallR X (.type "set") (rSetOfZ X.K X.prog X.w) := by
  intro pins s σ H xs us Q I r ⟨l, ks, e0, hl, hk, hf, q⟩
  subst e0
  rcases hl with hl | hl
  · exact cr_setOfT hc hu pins s σ H _ us Q I r ⟨l, ks, rfl, hl, hk, hf, q⟩
  · rw [Vals.ref1 r]
    obtain ⟨its, rv, pt, hz⟩ := I.tuple hl
    refine call_set_tupTs (P := X.prog) (w := X.w) ks (I.ok.hd hc) pt (by simpa using refs_of_vals rv) (fun p hp => I.isT (hk p hp)) hf (by omega) fun h' tk L es ep t R g k =>
      ⟨.ref s.heap.objs.size, upd H s.heap.objs.size (SetTO X.prog X.w s.heap.objs.size L), I.laid (t' := tk) k (Nat.le_refl _) (setTO_new R.t0), rfl, q _ L (I.hok.fresh (Nat.le_refl _)) (fun p hp => List.mem_of_mem_take (g.sub p hp)) fun p hp => g.all p (by rw [List.take_length]; exact hp)⟩
/-- set(xs) of ints or of tuples of ints -/
def rSetX (K : PySem.W.Frag) (P : Program) (w : World) : List V → Hp → VK → Prop := fun xs H Q => rSetOfZ K P w xs H Q ∨ rSetOfI K w xs H Q
def rSortX (K : PySem.W.Frag) (P : Program) (w : World) : List V → Hp → VK → Prop := fun xs H Q => rSortedT K P w xs H Q ∨ rSortedSet w xs H Q
theorem cr_setX (hc : X.calm = true) (hu : X.A.units + 70 < cLine) : CallR X (.type "set") (rSetX X.K X.prog X.w) := by
  intro pins s σ H xs us Q I r h
  rcases h with h | h
  · exact cr_setOfZ hc (by omega) pins s σ H xs us Q I r h
  · exact cr_setOfI hc pins s σ H xs us Q I r h
theorem cr_sortX (hc : X.calm = true) : CallR X (.builtin "sorted") (rSortX X.K X.prog X.w) := by
  intro pins s σ H xs us Q I r h
  rcases h with h | h
  · exact cr_sortedT hc pins s σ H xs us Q I r h
  · exact cr_sortedSet hc pins s σ H xs us Q I r h
/-- a tuple of ints -/
def tupOf : PyData → Option (List Int)
  | .tuple ds => intsOf ds
  | _ => none
def tupsOf : List PyData → Option (List (List Int))
  | [] => some []
  | d :: r => (tupOf d).bind fun k => (tupsOf r).map (k :: ·)
def tupI (k : List Int) : PyData := .tuple (k.map .int)
theorem tupOf_some {d : PyData} {k : List Int} (h : tupOf d = some k) : d = tupI k := by
  cases d with
  | tuple ds => rw [intsOf_some h]; rfl
  | _ => cases h
theorem tupsOf_some : ∀ {ds : List PyData} {ks : List (List Int)}, tupsOf ds = some ks → ds = ks.map tupI
  | [], _, h => by cases h; rfl
  | d :: r, _, h => by
    obtain ⟨k, h1, h2⟩ := Option.bind_eq_some_iff.mp h
    obtain ⟨ks, h3, h4⟩ := Option.map_eq_some_iff.mp h2
    subst h4
    rw [tupOf_some h1, tupsOf_some h3] <;> rfl
/-- ints, rising, each once -/
def setI (ns : List Int) : List Int := ns.eraseDups.mergeSort fun a b => decide (a ≤ b)
def codeLe (a b : List Int) : Bool := decide (TS.code 1000 a ≤ TS.code 1000 b)
def setT (ks : List (List Int)) : List (List Int) := ks.eraseDups.mergeSort codeLe
def okT (ks : List (List Int)) : Bool := match ks with
  | [] => true
  | k :: _ => decide (1 ≤ k.length) && ks.all fun l => l.length == k.length && l.all fun i => decide (0 ≤ i) && decide (i < 1000)
/-- sorted(set(xs)) -/
def setFl (ds : List PyData) : Option PyData := if ds.length < 64 then match intsOf ds with
    | some ns => some (.list ((setI ns).map .int))
    | none => (tupsOf ds).bind fun ks => if okT ks then some (.list ((setT ks).map tupI)) else none
    else none
def setF : List PyData → Option PyData
  | [.list ds] => setFl ds
  | [.tuple ds] => setFl ds
  | _ => none
theorem code_inj {B : Int} : ∀ {a b : List Int}, a.length = b.length → TS.Bd B a → TS.Bd B b → TS.code B a = TS.code B b → a = b
  | [], [], _, _, _, _ => rfl
  | [], _ :: _, h, _, _, _ => by cases h
  | _ :: _, [], h, _, _, _ => by cases h
  | x :: r, y :: q, h, ha, hb, e => by
    have hl : r.length = q.length := by simpa using h
    have z : x = y := by
      rcases Int.lt_trichotomy x y with g | g | g
      · have := TS.code_lt hl ha.tail hb.tail g; omega
      · exact g
      · have := TS.code_lt hl.symm hb.tail ha.tail g; omega
    subst z
    have e2 : TS.code B r = TS.code B q := by
      have e' : x * B ^ r.length + TS.code B r = x * B ^ q.length + TS.code B q := e
      rw [hl] at e'
      omega
    rw [code_inj hl ha.tail hb.tail e2]
end
end Zd

set_option maxRecDepth 100000
set_option maxHeartbeats 4000000
namespace Zd
open PySem PySem.Spec L2
open PyProof.Rows hiding St
theorem nodup_eraseDups' {α : Type} [BEq α] [LawfulBEq α] : ∀ (n : Nat) (l : List α), l.length ≤ n → l.eraseDups.Nodup
  | 0, [], _ => by simp
  | n + 1, [], _ => by simp
  | n + 1, a :: l, h => by
    rw [List.eraseDups_cons, List.nodup_cons]
    refine ⟨?_, nodup_eraseDups' n _ (Nat.le_trans (List.length_filter_le _ _) (by simpa using h))⟩
    intro q
    have := List.mem_filter.mp (List.mem_eraseDups.mp q)
    simp at this
theorem nodup_eraseDups {α : Type} [BEq α] [LawfulBEq α] (l : List α) : l.eraseDups.Nodup := nodup_eraseDups' _ l (Nat.le_refl _)
theorem setI_rise (ns : List Int) : (setI ns).Pairwise (· < ·) := sort_rise (nodup_eraseDups ns)
theorem setI_mem (ns : List Int) (k : Int) : k ∈ setI ns ↔ k ∈ ns := by
  unfold setI
  rw [List.mem_mergeSort, List.mem_eraseDups]
theorem none_upd {H : Hp} {a p : Addr} {o : HO} (h : upd H a o p = none) : H p = none := by
  by_cases e : p = a
  · subst e
    rw [upd_same] at h
    cases h
  · rw [upd_ne e] at h
    exact h

theorem dv_tupI {K : PySem.W.Frag} {H : Hp} {A : Addr → Prop} {v : V} {k : List Int} (a : Dv K H A v (tupI k)) : ∃ t, v = V.ref t ∧ SqT K H t (k.map V.int) := by
  cases (show Dv K H A v (.tuple (k.map .int)) from a) with
  | tup e z q => rw [Dvs.of_ints q] at e; exact ⟨_, rfl, .inl (.inl e)⟩
theorem dv_sq {K : PySem.W.Frag} {H : Hp} {A : Addr → Prop} {t : Addr} {k : List Int} (a : Dv K H A (.ref t) (tupI k)) : SqT K H t (k.map V.int) := by
  obtain ⟨t', e, h⟩ := dv_tupI a
  cases e
  exact h
theorem dvs_tups {K : PySem.W.Frag} {H : Hp} {A : Addr → Prop} : ∀ {ks : List (List Int)} {xs : List V}, Dvs K H A xs (ks.map tupI) →
    ∃ ps : List (Addr × List Int), xs = ps.map (fun p => V.ref p.1) ∧ ps.map (·.2) = ks ∧ ∀ p ∈ ps, Dv K H A (.ref p.1) (tupI p.2)
  | [], _, .nil => ⟨[], rfl, rfl, fun _ h => by cases h⟩
  | k :: ks, v :: _, .cons a b => by
    obtain ⟨ps, h1, h2, h3⟩ := dvs_tups b
    subst h1
    obtain ⟨t, rfl, hs⟩ := dv_tupI a
    refine ⟨(t, k) :: ps, rfl, by rw [List.map_cons, h2], fun p hp => ?_⟩
    rcases List.mem_cons.mp hp with rfl | hp
    · exact a
    · exact h3 p hp
theorem dvs_refs {K : PySem.W.Frag} {H : Hp} {A : Addr → Prop} : ∀ {L : List (Addr × List Int)}, (∀ p ∈ L, Dv K H A (.ref p.1) (tupI p.2)) → Dvs K H A (L.map fun p => V.ref p.1) ((L.map (·.2)).map tupI)
  | [], _ => .nil
  | p :: L, h => .cons (h p List.mem_cons_self) (dvs_refs fun q hq => h q (List.mem_cons_of_mem _ hq))
theorem okT_bd {ks : List (List Int)} (h : okT ks = true) (ne : ks ≠ []) : ∃ d, 1 ≤ d ∧ ∀ k ∈ ks, k.length = d ∧ TS.Bd 1000 k := by
  cases ks with
  | nil => exact absurd rfl ne
  | cons k r =>
    unfold okT at h
    rw [Bool.and_eq_true, List.all_eq_true] at h
    refine ⟨k.length, by simpa using h.1, fun l hl => ?_⟩
    have q := h.2 l hl
    rw [Bool.and_eq_true, List.all_eq_true] at q
    refine ⟨by simpa using q.1, fun i hi => ?_⟩
    have := q.2 i hi
    simpa using this
theorem setT_uniq {ks ms : List (List Int)} {d : Nat} (hb : ∀ k ∈ ks, k.length = d ∧ TS.Bd 1000 k) (hn : ms.Nodup) (hm : ∀ k, k ∈ ms ↔ k ∈ ks) (hp : ms.Pairwise fun a b => TS.code 1000 a ≤ TS.code 1000 b) : ms = setT ks := by
  have h2 : (setT ks).Pairwise fun a b => TS.code 1000 a ≤ TS.code 1000 b := by
    have := List.pairwise_mergeSort (le := codeLe) (fun a b c h1 h2 => by unfold codeLe at *; simp at *; omega) (fun a b => by unfold codeLe; simp; omega) ks.eraseDups
    exact this.imp fun h => by unfold codeLe at h; simpa using h
  have m2 : ∀ k, k ∈ setT ks ↔ k ∈ ks := fun k => by unfold setT; rw [List.mem_mergeSort, List.mem_eraseDups]
  have n2 : (setT ks).Nodup := (List.mergeSort_perm _ _).nodup_iff.mpr (nodup_eraseDups ks)
  refine List.Perm.eq_of_pairwise (fun a b ha hb' x y => ?_) hp h2 ((List.perm_ext_iff_of_nodup hn n2).mpr fun k => (hm k).trans (m2 k).symm)
  have qa := hb a ((hm a).mp ha)
  have qb := hb b ((m2 b).mp hb')
  exact code_inj (qa.1.trans qb.1.symm) qa.2 qb.2 (Int.le_antisymm x y)
theorem setF_core {K : PySem.W.Frag} {B : Amb} {P : Program} {w : World} {A : Addr → Prop} {H : Hp} {vs : List V} {ds : List PyData} {dz : PyData} {Q : VK} (bs : Bvs K B H A vs ds) (hz : setF ds = some dz)
    (k : ∀ p H', H p = none → Kept H H' → OwnAt K H' (fun a => A a ∨ a = p) p dz → Q (.ref p) H') : rSetX K P w vs H fun x H2 => rSortX K P w [x] H2 Q := by
  obtain ⟨es, v, a, xs, rfl, rfl, h1, h2, h3, hz⟩ : ∃ es v a xs, vs = [v] ∧ v = V.ref a ∧ SqX K H a xs ∧ xs.length ≤ sizeLine ∧ Dvs K H A xs es ∧ setFl es = some dz := by
    unfold setF at hz
    split at hz
    · obtain ⟨v, e, b⟩ := b1 bs
      obtain ⟨a, xs, e1, h1, h2, h3⟩ := b.list
      exact ⟨_, v, a, xs, e, e1, .inl (.inl (.inl h1)), h2, h3, hz⟩
    · obtain ⟨v, e, b⟩ := b1 bs
      obtain ⟨a, xs, e1, h1, h2, h3⟩ := b.tuple
      exact ⟨_, v, a, xs, e, e1, .inr h1, h2, h3, hz⟩
    · cases hz
  unfold setFl at hz
  split at hz
  · rename_i h64
    have hl := h3.length
    split at hz
    · rename_i ns hi
      cases hz
      obtain rfl := intsOf_some hi
      rw [Dvs.of_ints h3] at h1
      refine .inr ⟨a, ns, rfl, h1, by simpa using h64, fun sa S n hn hn64 hS => .inr ⟨sa, S, n, rfl, upd_same, hn64, fun ys p hp hm hl hnp => ?_⟩⟩
      have e : ys = setI ns := rise_uniq hp (setI_rise ns) fun x => (hm x).trans ((hS x).trans (setI_mem ns x).symm)
      subst e
      have hp0 := none_upd hnp
      refine k p _ hp0 ((Kept.new hn).trans (Kept.new hnp)) (own_lst hnp ?_ (Dvs.ints _))
      rw [List.length_map, hl]
      exact sz (by omega)
    · rename_i hi0
      obtain ⟨ks, h4, h5⟩ := Option.bind_eq_some_iff.mp hz
      split at h5
      · rename_i hok
        cases h5
        obtain rfl := tupsOf_some h4
        obtain ⟨ps, rfl, rfl, h6⟩ := dvs_tups h3
        refine .inl ⟨a, ps, rfl, h1, fun p hp => dv_sq (h6 p hp), by simpa using h64, fun sa L hn hL hL2 => .inl ?_⟩
        have ne : ps.map (·.2) ≠ [] := by
          intro q
          have : ps = [] := by simpa using q
          subst this
          cases hi0
        obtain ⟨d, hd, hb⟩ := okT_bd hok ne
        refine ⟨sa, L, d, 1000, rfl, upd_same, fun p hp => ?_, hd, fun p hp => hb _ (List.mem_map.mpr ⟨p, hL p hp, rfl⟩), fun L' p pm nd hl pw hnp => ?_⟩
        · exact dv_sq ((h6 p (hL p hp)).kept (Kept.new hn))
        · have hp0 := none_upd hnp
          have e : L'.map (·.2) = setT (ps.map (·.2)) := setT_uniq hb nd (fun k => ?_) (List.pairwise_map.mpr pw)
          · rw [← e] at k
            refine k p _ hp0 ((Kept.new hn).trans (Kept.new hnp)) (own_lst hnp ?_ (dvs_refs fun q hq => ?_))
            · rw [List.length_map]; exact sz (by omega)
            · exact (h6 q (hL q (pm.mem_iff.mp hq))).kept (Kept.new hn)
          · rw [List.mem_map, List.mem_map]
            constructor
            · rintro ⟨q, hq, rfl⟩; exact ⟨q, hL q (pm.mem_iff.mp hq), rfl⟩
            · rintro ⟨q, hq, rfl⟩
              obtain ⟨q', hq', e'⟩ := List.mem_map.mp (hL2 q hq)
              exact ⟨q', pm.mem_iff.mpr hq', e'⟩
      · cases h5
  · cases hz
section
variable {X : Cx} {C : Cn} {pos p p2 q : Pos} {e : Expr} {ms : Rd (List PyData)}
theorem bt_setC : bootBuiltins (Str.ofString "set") = some (.type "set") := by decide +kernel
/-- sorted(set(e)) -/
theorem pf_sortset (hK : X.K = C.K) (hc : X.calm = true) (hu : X.A.units + 70 < cLine) (hg : Gl X "sorted") (hm : X.mg "sorted" = none) (hg2 : Gl X "set") (hm2 : X.mg "set" = none) (ha : PBs X C [e] ms)
    (he : starEach [e] X.env = (false, eval e X.env) :: starEach [] X.env := by rfl) (hpl : (backTo q (starEach [] X.env)).any (·.1) = false := by rfl)
    (he2 : starEach [.Call (.Name "set" p2) [e] [] q] X.env = (false, eval (.Call (.Name "set" p2) [e] [] q) X.env) :: starEach [] X.env := by rfl) (hpl2 : (backTo pos (starEach [] X.env)).any (·.1) = false := by rfl) :
    PF X C (.Call (.Name "sorted" p) [.Call (.Name "set" p2) [e] [] q] [] pos) (mCallB setF ms) := by
  obtain ⟨ta, p1, q1⟩ := ha.ex
  refine ⟨_, pe_callB (cr_sortX hc) hg hm bt_sorted (pa_cons (pe_callTy (cr_setX hc hu) hg2 hm2 bt_setC p1 (he := he) (hpl := hpl)) pa_nil he2) (he := he2) (hpl := hpl2), fun A E G σ H Q r G' R hm p => ?_⟩
  show ta σ H fun vs H1 => rSetX X.K X.prog X.w vs H1 fun x H2 => rSortX X.K X.prog X.w [x] H2 Q
  refine goBs q1 R hm p.err fun d G1 v H1 e1 R1 d1 hm1 => ?_
  obtain ⟨dz, hz, rfl, rfl⟩ := Rd.lift_cases hm1
  rw [hK]
  exact setF_core d1 hz fun a H' n k o => p a H' (e1.free n) (e1.trans k.ext) (k.jr R1.jr) o
end
end Zd

set_option maxRecDepth 100000
set_option maxHeartbeats 4000000
namespace Zd
open PySem PySem.Spec L2
open PyProof.Rows hiding St
/-! ### dict(list of pairs) -/
def pairOf : PyData → Option (Key × PyData)
  | .tuple [.str x, d] => some (.inr x, d)
  | .tuple [.int i, d] => some (.inl i, d)
  | _ => none
def pairsOf : List PyData → Option (List (Key × PyData))
  | [] => some []
  | d :: r => (pairOf d).bind fun k => (pairsOf r).map (k :: ·)
def mergeD (kvs : List (PyData × PyData)) (more : List (Key × PyData)) : List (PyData × PyData) := more.foldl (fun acc kv => putD acc (.inl kv.1) kv.2) kvs
def dictF : List PyData → Option PyData
  | [.list ds] => (pairsOf ds).map fun ps => .dict (mergeD [] ps)
  | _ => none
section
variable {K : PySem.W.Frag} {H : Hp} {A : Addr → Prop}
theorem pair_of {v : V} {d e : PyData} {k : Key} (a : Dv K H A v d) (h : pairOf d = some (k, e)) : ∃ t w, v = .ref t ∧ SqT K H t [kV k, w] ∧ Dv K H A w e := by
  unfold pairOf at h
  split at h
  · cases h
    cases a with
    | tup e1 z q => cases q with | cons a1 q => cases q with | cons a2 q => cases q; cases a1; exact ⟨_, _, rfl, .inl (.inl e1), a2⟩
  · cases h
    cases a with
    | tup e1 z q => cases q with | cons a1 q => cases q with | cons a2 q => cases q; cases a1; exact ⟨_, _, rfl, .inl (.inl e1), a2⟩
  · cases h
theorem pairs_of : ∀ {ds : List PyData} {xs : List V} {qs : List (Key × PyData)}, Dvs K H A xs ds → pairsOf ds = some qs →
    ∃ (ps : List Addr) (kvs : List (Key × V)), xs = ps.map V.ref ∧ Paired (fun p kv => SqT K H p [kV kv.1, kv.2]) ps kvs ∧ Paired (fun (kv : Key × V) (q : Key × PyData) => kv.1 = q.1 ∧ Dv K H A kv.2 q.2) kvs qs
  | [], _, _, .nil, h => by cases h; exact ⟨[], [], rfl, .nil, .nil⟩
  | d :: ds, v :: xs, _, .cons a b, h => by
    obtain ⟨⟨k, e⟩, h1, h2⟩ := Option.bind_eq_some_iff.mp h
    obtain ⟨qs, h3, rfl⟩ := Option.map_eq_some_iff.mp h2
    obtain ⟨ps, kvs, rfl, p1, p2⟩ := pairs_of b h3
    obtain ⟨t, w, rfl, q1, q2⟩ := pair_of a h1
    exact ⟨t :: ps, (k, w) :: kvs, rfl, .cons q1 p1, .cons ⟨rfl, q2⟩ p2⟩
theorem merge_dvk : ∀ {kvs : List (Key × V)} {qs : List (Key × PyData)} {ks : List (Key × V)} {ds : List (PyData × PyData)}, Paired (fun (kv : Key × V) (q : Key × PyData) => kv.1 = q.1 ∧ Dv K H A kv.2 q.2) kvs qs → Dvk K H A (gk ks) ds → Dvk K H A (gk (mergeK ks kvs)) (mergeD ds qs)
  | [], [], _, _, .nil, h => h
  | (k, v) :: kvs, (k', d) :: qs, ks, ds, .cons ⟨e, a⟩ b, h => by
    cases e
    show Dvk K H A (gk (mergeK (putK ks k v) kvs)) (mergeD (putD ds (.inl k) d) qs)
    exact merge_dvk b (gk_put h a)
end
section
variable {X : Cx} {C : Cn}
theorem f_dictP (hc : X.calm = true) (hK : X.K = C.K) : CallR X (.type "dict") (rZnF C dictF) := by
  intro pins s σ H vs us Q I rv h
  obtain ⟨A, ds0, dz, trk, ef, bs, hg, k⟩ := h
  unfold dictF at hg
  split at hg
  · obtain ⟨qs, h1, rfl⟩ := Option.map_eq_some_iff.mp hg
    obtain ⟨v, rfl, b⟩ := b1 bs
    obtain ⟨a, xs, rfl, h2, h3, h4⟩ := b.list
    obtain ⟨ps, kvs, rfl, p1, p2⟩ := pairs_of h4 h1
    rw [← hK] at p1
    refine call_dictP hc pins s σ H _ us Q I rv ⟨a, ps, kvs, rfl, .inl (.inl h2), p1, fun p n => ?_⟩
    refine k p _ n (Kept.new n) ⟨_, ⟨_, upd_same, .inl ⟨_, rfl, rfl⟩⟩, ?_⟩
    exact ((merge_dvk p2 .nil).wide (A' := fun a => A a ∨ a = p) fun a q => q.elim .inl fun z => .inr (by rw [z]; exact n)).kept (Kept.new n)
  · cases hg
end
end Zd

set_option maxRecDepth 100000
set_option maxHeartbeats 4000000
namespace Zd
open PySem PySem.Spec L2
open PyProof.Rows hiding St

/-! ### a dict that is walked: it is locked meanwhile -/
def EV.rd : EV → EV
  | .own x => .lk false x
  | ev => ev
/-- the slots while slot i is locked: what slots alone hold is looked at only -/
def lockE (E : Evn) (i : Nat) (kvs : List (PyData × PyData)) : Evn := (E.map (·.map EV.rd)).set i (some (.lk true (.dict kvs)))
def mLkE (i : Nat) (m : Rd PyData) : Rd PyData := fun E G => match E[i]? with
  | some (some (.d (.dict kvs))) => match m (lockE E i kvs) G with
    | some (.ok d, G') => some (.ok d, G')
    | _ => none
  | some (some (.own (.dict kvs))) => match m (lockE E i kvs) G with
    | some (.ok d, G') => some (.ok d, G')
    | _ => none
  | _ => none
theorem mLkE_some {i : Nat} {m : Rd PyData} {E : Evn} {G G' : Rng} {r : Except Exn PyData} (h : mLkE i m E G = some (r, G')) : ∃ kvs d, r = .ok d ∧ m (lockE E i kvs) G = some (.ok d, G') ∧ (E[i]? = some (some (.d (.dict kvs))) ∨ E[i]? = some (some (.own (.dict kvs)))) := by
  unfold mLkE at h
  split at h
  · rename_i kvs e
    split at h
    · rename_i d G1 e1
      cases h
      exact ⟨kvs, d, rfl, e1, .inl e⟩
    · cases h
  · rename_i kvs e
    split at h
    · rename_i d G1 e1
      cases h
      exact ⟨kvs, d, rfl, e1, .inr e⟩
    · cases h
  · cases h
section
variable {K : PySem.W.Frag} {B : Amb} {H : Hp} {A : Addr → Prop} {p : Addr} {y : HO}
theorem RdAt.flip {q : Addr} {d : PyData} (hp : ∀ xs, H p ≠ some (.lst xs) ∧ H p ≠ some (.tup xs)) (hy : ∀ o ks, L2.Rd H p o → HOd o ks → L2.Rd (upd H p y) p o) (x : RdAt K H A q d) : RdAt K (upd H p y) A q d := by
  cases d with
  | list ds => obtain ⟨xs, h1, h2, h3⟩ := x; exact ⟨xs, by rw [upd_ne fun w : q = p => (hp _).1 (w ▸ h1)]; exact h1, h2, h3.flip hp hy⟩
  | dict kvs =>
    obtain ⟨ks, ⟨o, r, w⟩, h3⟩ := x
    refine ⟨ks, ⟨o, ?_, w⟩, h3.flip hp hy⟩
    by_cases c : q = p
    · subst c; exact hy o ks r w
    · rcases r with r | ⟨u, r⟩
      · exact .inl (by rw [upd_ne c]; exact r)
      · exact .inr ⟨u, by rw [upd_ne c]; exact r⟩
  | _ => exact x.elim
theorem RelEV.rd {v : V} {ev : EV} (h : RelEV K B A H v ev) : RelEV K B A H v ev.rd := by
  cases ev with
  | own x => obtain ⟨p, h1, h2, h3⟩ := h; exact ⟨p, h1, h2, h3.rd, fun z => by cases z⟩
  | _ => exact h
/-- the slots over a heap in which one dict is locked -/
theorem Rel.lock {E : Evn} {G : Rng} {σ : L2.St} {i : Nat} {kvs : List (PyData × PyData)} (R : Rel K B A E G σ H) (si : σ[i]? = some (some (.ref p))) (np : ¬ efs B p) {o u : HO} {ks : List (GK × V)} (hp : H p = some o) (ho : HOd u ks) (hq : Dvk K H A ks kvs) {ob : Obj}
    (hou : o = u ∨ ∃ z, o = .frz z u) (hob : (∃ z, o = .frz z u) → o = .frz ob u) : Rel K B A (lockE E i kvs) G σ (upd H p (.frz ob u)) ∧ (∀ xs, H p ≠ some (.lst xs) ∧ H p ≠ some (.tup xs)) ∧ ∀ o ks, L2.Rd H p o → HOd o ks → L2.Rd (upd H p (.frz ob u)) p o := by
  have hn := hod_ne ho
  have n1 : ∀ xs, H p ≠ some (.lst xs) ∧ H p ≠ some (.tup xs) := fun xs => by
    rw [hp]
    rcases hou with rfl | ⟨z, rfl⟩
    · exact ⟨fun z => hn.2.1 _ (Option.some.inj z), fun z => hn.1 _ (Option.some.inj z)⟩
    · exact ⟨(fun z => nomatch z), (fun z => nomatch z)⟩
  have n2 : ∀ o ks, L2.Rd H p o → HOd o ks → L2.Rd (upd H p (.frz ob u)) p o := fun o' ks' r w => by
    have e : o' = u := by
      rcases r with r | ⟨z, r⟩
      · rw [hp] at r
        cases r
        rcases hou with h | ⟨z, rfl⟩
        · exact h
        · exact absurd rfl ((hod_ne w).2.2 _ _)
      · rw [hp] at r
        cases r
        rcases hou with rfl | ⟨z, e⟩
        · exact absurd rfl (hn.2.2 _ _)
        · cases e; rfl
    subst e
    exact .inr ⟨ob, upd_same⟩
  refine ⟨⟨fun j ev hj => ?_, JR.upd R.jr np, fun a z => ?_, R.ef, by unfold lockE; rw [List.length_set, List.length_map]; exact R.len⟩, n1, n2⟩
  · unfold lockE at hj
    by_cases hij : i = j
    · subst hij
      rw [List.getElem?_set_self (by rw [List.length_map, R.len]; exact (List.getElem?_eq_some_iff.mp si).1)] at hj
      cases hj
      exact ⟨_, si, p, rfl, np, ⟨ks, ⟨u, .inr ⟨ob, upd_same⟩, ho⟩, hq.flip n1 n2⟩, fun _ => ⟨ob, u, upd_same⟩⟩
    · rw [List.getElem?_set_ne hij, List.getElem?_map] at hj
      obtain ⟨x, h1, h2⟩ := Option.map_eq_some_iff.mp hj
      cases x with
      | none => cases h2
      | some ew =>
        cases h2
        obtain ⟨v, g1, g2⟩ := R.slot j ew h1
        refine ⟨v, g1, ?_⟩
        cases ew with
        | d x => exact Dv.flip n1 n2 g2
        | own x => obtain ⟨q, e, nq, h⟩ := g2; exact ⟨q, e, nq, h.rd.flip n1 n2, fun z => by cases z⟩
        | lk f x =>
          obtain ⟨q, e, nq, h, hf⟩ := g2
          refine ⟨q, e, nq, h.flip n1 n2, fun z => ?_⟩
          by_cases c : q = p
          · subst c; exact ⟨ob, u, upd_same⟩
          · obtain ⟨o2, u2, w⟩ := hf z; exact ⟨o2, u2, by rw [upd_ne c]; exact w⟩
        | st => exact g2
        | scr ns =>
          obtain ⟨a, e, z1, z3⟩ := g2
          refine ⟨a, e, z1, ?_⟩
          rcases z3 with ⟨z2, o2, z3⟩ | z3
          · by_cases ha : a = p
            · exfalso
              rw [ha, hp] at z3
              cases z3
              rcases hou with h | ⟨z, h⟩
              · exact hn.2.2 _ _ h.symm
              · cases h
                exact hn.2.1 _ rfl
            · exact .inl ⟨z2, o2, by rw [upd_ne ha]; exact z3⟩
          · exact .inr z3
  · by_cases c : a = p
    · rw [c, upd_same]; simp
    · rw [upd_ne c]; exact R.trk a z
end
section
variable {X : Cx} {C : Cn} {pos : Pos} {e : Expr} {m : Rd PyData} {tg : Expr}
def tLockZ (t : TE) : TE := fun σ H Q => tLockE t σ H Q ∨ t σ H Q
theorem pe_lockZ {t : TE} (h : PE X e t) : PE X e (tLockZ t) := ⟨fun pins s σ H Q I hw => hw.elim (fun hw => (pe_lock h).run pins s σ H Q I hw) fun hw => h.run pins s σ H Q I hw⟩
theorem pf_lock (i : Nat) (h : PF X C e m) : PF X C e (mLkE i m) := by
  obtain ⟨te, p1, q1⟩ := h.ex
  refine ⟨_, pe_lockZ p1, fun A E G σ H Q r G' R hm p => ?_⟩
  obtain ⟨kvs, d, rfl, hm, hE⟩ := mLkE_some hm
  obtain ⟨a, o, u, ks, si, na, ha, hou, ho, hq⟩ : ∃ a o u ks, σ[i]? = some (some (.ref a)) ∧ ¬ efs C.B a ∧ H a = some o ∧ (o = u ∨ ∃ z, o = .frz z u) ∧ HOd u ks ∧ Dvk C.K H A ks kvs := by
    rcases hE with hE | hE
    · obtain ⟨v, h1, h2⟩ := R.slot i _ hE
      cases (show Dv C.K H A v (.dict kvs) from h2) with
      | dct r n q =>
        obtain ⟨u, r, w⟩ := r
        rcases r with r | ⟨z, r⟩
        · exact ⟨_, _, u, _, h1, fun z => n (R.ef _ z), r, .inl rfl, w, q⟩
        · exact ⟨_, _, u, _, h1, fun z => n (R.ef _ z), r, .inr ⟨z, rfl⟩, w, q⟩
    · obtain ⟨v, h1, a, rfl, n, ks, ⟨u, r, w⟩, q⟩ := R.slot i _ hE
      exact ⟨a, u, u, ks, h1, n, r, .inl rfl, w, q⟩
  rcases hou with rfl | ⟨z, rfl⟩
  · refine .inl ⟨a, o, ha, by rcases ho with ⟨ls, rfl, _⟩ | ⟨ls, rfl, _⟩ <;> exact True.intro, fun ob => ?_⟩
    obtain ⟨R1, n1, n2⟩ := R.lock (ob := ob) (kvs := kvs) si na ha ho hq (.inl rfl) fun ⟨z, e⟩ => absurd e ((hod_ne ho).2.2 _ _)
    refine q1 A _ G σ _ _ _ _ R1 hm fun v H' nv x1 j1 own => ?_
    have hl : H' a = some (.frz ob o) := x1.keep a _ upd_same na
    have va : v ≠ a := fun z => by rw [z, upd_same] at nv; cases nv
    have nv' : H v = none := by rw [upd_ne va] at nv; exact nv
    refine ⟨hl, p v (upd H' a o) nv' ⟨fun b w q n => ?_, fun b q => ?_, fun b xs q => ?_⟩ (JR.upd j1 na) ?_⟩
    · by_cases c : b = a
      · rw [c] at q ⊢; rw [upd_same]; rw [ha] at q; exact q
      · rw [upd_ne c]; exact x1.keep b w (by rw [upd_ne c]; exact q) n
    · by_cases c : b = a
      · rw [c, upd_same]; simp
      · rw [upd_ne c]; exact x1.trk b (by rw [upd_ne c]; exact q)
    · have c : b ≠ a := fun c => (n1 xs).2 (c ▸ q)
      rw [upd_ne c]; exact x1.tup b xs (by rw [upd_ne c]; exact q)
    · have m1 : ∀ xs, H' a ≠ some (.lst xs) ∧ H' a ≠ some (.tup xs) := fun xs => by rw [hl]; exact ⟨(fun z => nomatch z), (fun z => nomatch z)⟩
      have m2 : ∀ o' ks, L2.Rd H' a o' → HOd o' ks → L2.Rd (upd H' a o) a o' := fun o' ks r w => by
        rcases r with r | ⟨z, r⟩
        · rw [hl] at r; cases r; exact absurd rfl ((hod_ne w).2.2 _ _)
        · rw [hl] at r; cases r; exact .inl upd_same
      cases d with
      | list ds => obtain ⟨xs, h1, h2, h3⟩ := own; exact ⟨xs, by rw [upd_ne va]; exact h1, h2, h3.flip m1 m2⟩
      | dict ds => obtain ⟨xs, ⟨w, h1, h2⟩, h3⟩ := own; exact ⟨xs, ⟨w, by rw [upd_ne va]; exact h1, h2⟩, h3.flip m1 m2⟩
      | _ => exact own.elim
  · refine .inr ?_
    obtain ⟨R1, n1, n2⟩ := R.lock (ob := z) (kvs := kvs) si na ha ho hq (.inr ⟨z, rfl⟩) fun _ => rfl
    have e : upd H a (.frz z u) = H := by
      funext b
      by_cases c : b = a
      · rw [c, upd_same, ha]
      · rw [upd_ne c]
    rw [e] at R1
    exact q1 A _ G σ H _ _ _ R1 hm p
/-- for x in d, in a comprehension: the keys of a locked dict -/
def mKeysL (i : Nat) : Rd (List PyData) := fun E G => match E[i]? with
  | some (some (.lk true (.dict kvs))) => some (.ok (kvs.map (·.1)), G)
  | _ => none
theorem Dvk.keysG {K : PySem.W.Frag} {H : Hp} {A : Addr → Prop} : ∀ {ks : List (GK × V)} {kvs : List (PyData × PyData)}, Dvk K H A ks kvs → kvs.map (·.1) = ks.map fun p => keyG p.1
  | _, _, .nil => rfl
  | _, _, .cons _ q => by rw [List.map_cons, List.map_cons, q.keysG]
theorem pis_keysL (i : Nat) {x : Str} (hN : X.N[i]? = some x := by rfl) (hv : Vis X.env.scope x := by first | exact Or.inl rfl | exact Or.inr (Or.inl rfl) | exact Or.inr (Or.inr rfl)) (hd : (x == ("__debug__" : Str)) = false := by decide)
    (hcd : (x == ("__classdict__" : Str)) = false := by decide) : PIs X C .bor tg (.Name x pos) (mKeysL i) := by
  refine ⟨_, pi_keys (pe_var hN hv hd hcd), fun A E G σ H R r G' Rl hm p => ?_⟩
  unfold mKeysL at hm
  split at hm
  case h_2 => cases hm
  rename_i kvs e
  cases hm
  obtain ⟨v, h1, a, rfl, na, hr, hf⟩ := Rl.slot i _ e
  obtain ⟨ob, u, hl⟩ := hf rfl
  obtain ⟨ks, ⟨o, r, w⟩, q⟩ := hr
  have eu : o = u := by
    rcases r with r | ⟨z, r⟩
    · rw [hl] at r; cases r; exact absurd rfl ((hod_ne w).2.2 _ _)
    · rw [hl] at r; cases r; rfl
  subst eu
  have stab : ∀ {Z : Addr → Prop}, zc .bor C.B A σ H Z → ∀ H1 H2 : Hp, H1 a = some (.frz ob o) → (∀ b w, H1 b = some w → ¬ Z b → H2 b = some w) → Tups H1 H2 → H2 a = some (.frz ob o) := fun {Z} hz H1 H2 i1 k _ => k a _ i1 fun z => (hz a z).elim na fun w => by rw [hl] at w; cases w
  refine ⟨_, h1, a, ob, rfl, ?_⟩
  rw [q.keysG] at p
  rcases w with ⟨ls, rfl, rfl⟩ | ⟨ls, rfl, ne, hz, rfl⟩
  · refine .inl ⟨ls, hl, p _ H (Ext.refl _ _) Rl.jr fun Z hz => ⟨fun H => H a = some (.frz ob (.dK ls)), hl, stab hz, fun j H1 hj i1 => walk_keys.goes j H1 (by simpa using hj) i1, fun H1 i1 => ?_, fun j H1 x H2 A' hj tr i1 y => ?_⟩⟩
    · have := walk_keys.stops H1 i1; simpa using this
    · obtain ⟨rfl, k, v, e1, rfl⟩ := walk_keys.yields j H1 x H2 (by simpa using hj) i1 y
      exact ⟨Kept.refl _, keyG (.inl k), by simp [e1], KeyAt.dv (k := .inl k) rfl⟩
  · refine .inr ⟨ls, hl, p _ H (Ext.refl _ _) Rl.jr fun Z hz' => ⟨fun H => H a = some (.frz ob (.dT ls)), hl, stab hz', fun j H1 hj i1 => walk_keysT.goes j H1 (by simpa using hj) i1, fun H1 i1 => ?_, fun j H1 x H2 A' hj tr i1 y => ?_⟩⟩
    · have := walk_keysT.stops H1 i1; simpa using this
    · obtain ⟨rfl, k, v, b, e1, rfl, e2⟩ := walk_keysT.yields j H1 x H2 (by simpa using hj) i1 y
      exact ⟨Kept.refl _, keyG (.inr k), by simp [e1], KeyAt.dv (k := .inr k) ⟨hz _ (List.mem_of_getElem? e1), b, rfl, e2⟩⟩
/-- sorted(x), a list or a dict -/
def sortX : List PyData → Option PyData
  | [.dict kvs] => sortDF [.dict kvs]
  | ds => sortF ds
theorem f_sortX (hK : X.K = C.K) (hc : X.calm = true) (hu : X.A.units + 70 < cLine) : CallR X (.builtin "sorted") (rZnF C sortX) := by
  intro pins s σ H vs us Q I rv h
  obtain ⟨A, ds, dz, trk, ef, bs, hg, k⟩ := h
  unfold sortX at hg
  split at hg
  · exact f_sortD hc pins s σ H vs us Q I rv ⟨A, _, dz, trk, ef, bs, hg, k⟩
  · exact f_sort hK hu pins s σ H vs us Q I rv ⟨A, ds, dz, trk, ef, bs, hg, k⟩
end
end Zd

set_option maxRecDepth 100000
set_option maxHeartbeats 4000000
namespace Zd
open PySem PySem.Spec L2
open PyProof.Rows hiding St

/-! ### a, b = x, y, where a name is a cell -/
section
variable {X : Cx} {C : Cn} {pos : Pos}
theorem par_core {t1 t2 : TE} {m1 m2 : Rd EV} (i j : Nat)
    (q1 : ∀ A E G σ H Q r G', Rel C.K C.B A E G σ H → m1 E G = some (r, G') → PostV C A H r G' Q → t1 σ H Q) (h1no : ∀ E G ev G', m1 E G = some (.ok ev, G') → noEV ev = false)
    (q2 : ∀ A E G σ H Q r G', Rel C.K C.B A E G σ H → m2 E G = some (r, G') → PostV C A H r G' Q → t2 σ H Q) (h2no : ∀ E G ev G', m2 E G = some (.ok ev, G') → noEV ev = false) :
    ∀ A0 O E G σ H D o G' (Kt : V → V → Hp → Prop), RelT C.K C.B A0 O E G σ H → sPar i j m1 m2 E G = some (o, G') → PostS C A0 O H o G' D → (∀ E', o = .nx E' → ∀ O' v w H', RelT C.K C.B A0 O' E' G' ((σ.set i (some v)).set j (some w)) H' → StepT C.B O H O' H' → Kt v w H') → t1 σ H fun v H1 => t2 σ H1 fun w H2 => Kt v w H2 := by
  intro A0 O E G σ H D o G' Kt R hm p0 pk
  rcases rdS_cases hm with ⟨x, e1, rfl⟩ | ⟨ev, G1, e1, hm1⟩
  · exact q1 _ E G σ H _ _ _ R.rel e1 p0.perr
  · refine q1 _ E G σ H _ _ _ R.rel e1 ?_
    have n1 := h1no _ _ _ _ e1
    rcases rdS_cases hm1 with ⟨x, e2, rfl⟩ | ⟨ew, G2, e2, hm2⟩
    · cases ev with
      | d d1 => exact fun v H1 x1 j1 b1 => q2 _ E G1 σ H1 _ _ _ (R.rel.ext x1 j1) e2 (PErr.ext x1 p0.perr)
      | own d1 => exact fun a1 H1 n1 x1 j1 b1 => q2 _ E G1 σ H1 _ _ _ (R.rel.fresh n1 x1 j1 b1.some) e2 (PErr.ext x1 (p0.perr.anti fun a z => .inl z))
      | lk _ _ => cases n1
      | st => cases n1
      | scr _ => cases n1
    · cases hm2
      have p := pk _ rfl
      have n2 := h2no _ _ _ _ e2
      cases ev with
      | lk _ _ => cases n1
      | st => cases n1
      | scr _ => cases n1
      | d d1 =>
        refine fun v H1 x1 j1 b1 => q2 _ E G1 σ H1 _ _ _ (R.rel.ext x1 j1) e2 ?_
        have R1 := (R.ext x1 j1).setD i b1
        cases ew with
        | d d2 => exact fun w H2 x2 j2 b2 => p O v w H2 ((R1.ext x2 j2).setD j b2) (.of (x1.trans x2))
        | own d2 => exact fun a2 H2 n2 x2 j2 b2 => let ⟨r, s⟩ := R1.setF j n2 x2 j2 b2; p _ _ _ H2 r ((StepT.of x1).trans s)
        | lk _ _ => cases n2
        | st => cases n2
        | scr _ => cases n2
      | own d1 =>
        refine fun a1 H1 m1 x1 j1 b1 => q2 _ E G1 σ H1 _ _ _ (R.rel.fresh m1 x1 j1 b1.some) e2 ?_
        obtain ⟨R1, s1⟩ := R.setF i m1 x1 j1 b1
        have sub : ∀ a, AO A0 (O.put i a1) a → AO A0 O a ∨ a = a1 := fun a z => by
          rcases z with z | ⟨k, z⟩
          · exact .inl (.inl z)
          · unfold Om.put at z
            split at z
            · cases z; exact .inr rfl
            · exact .inl (.inr ⟨k, z⟩)
        cases ew with
        | d d2 => exact fun w H2 x2 j2 b2 => p _ _ _ H2 ((R1.ext x2 j2).setD j (b2.anti sub)) (s1.trans (.of x2))
        | own d2 => exact fun a2 H2 n2 x2 j2 b2 => let ⟨r, s⟩ := R1.setF j n2 x2 j2 (b2.anti fun a z => z.imp (sub a) id); p _ _ _ H2 r (s1.trans s)
        | lk _ _ => cases n2
        | st => cases n2
        | scr _ => cases n2
theorem psd_parT (i j : Nat) {x y : Str} {a b : Expr} {m1 m2 : Rd EV} {px py pt : Pos} {kt k2 pt2} (hc : X.calm = true) (hN : X.N.Nodup) (h1 : PV X C a m1) (h2 : PV X C b m2) (hij : i ≠ j) (hi : X.N[i]? = some x := by rfl) (hj : X.N[j]? = some y := by rfl)
    (hx : Loc X.env.scope x := by first | exact Or.inl rfl | exact Or.inr rfl) (hfx : X.fn x = true ∨ X.env.scope.names.lookup x = some .local := by first | exact .inl rfl | exact .inr rfl | assumption)
    (hy : Loc X.env.scope y := by first | exact Or.inl rfl | exact Or.inr rfl) (hfy : X.fn y = true ∨ X.env.scope.names.lookup y = some .local := by first | exact .inl rfl | exact .inr rfl | assumption)
    (hs1 : (assignEach [.Name x px, .Name y py] X.env).map (·.2) = assign (.Name x px) X.env :: (assignEach [.Name y py] X.env).map (·.2) := by rfl) (hs2 : (assignEach [.Name y py] X.env).map (·.2) = assign (.Name y py) X.env :: (assignEach [] X.env).map (·.2) := by rfl)
    (hn : (assignEach [.Name x px, .Name y py] X.env).length = 2 := by rfl) (hst : (assignEach [.Name x px, .Name y py] X.env).findIdx? (·.1) = none := by rfl)
    (hw : swappedStores [.Tuple [.Name x px, .Name y py] kt pt] (.Tuple [a, b] k2 pt2) X.env = pure none := by rfl)
    (hs : swapsWithSole [.Tuple [.Name x px, .Name y py] kt pt] (.Tuple [a, b] k2 pt2) pos.line X.env = pure false := by rfl) (ha : (assignEach [.Tuple [.Name x px, .Name y py] kt pt] X.env).map (·.2) = [assign (.Tuple [.Name x px, .Name y py] kt pt) X.env] := by rfl)
    (st1 : starEach [a, b] X.env = (false, eval a X.env) :: starEach [b] X.env := by rfl) (st2 : starEach [b] X.env = (false, eval b X.env) :: starEach [] X.env := by rfl) :
    PSd X C (.Assign [.Tuple [.Name x px, .Name y py] kt pt] (.Tuple [a, b] k2 pt2) pos) (sPar i j m1 m2) := by
  obtain ⟨t1, p1, q1⟩ := h1.ex
  obtain ⟨t2, p2, q2⟩ := h2.ex
  refine ⟨_, ps_asg (pe_tup (pa_cons p1 (pa_cons p2 pa_nil st2) st1)) (pg_tup hc (pgs_cons (pg_name hN hi hx hfx) (pgs_cons (pg_name hN hj hy hfy) pgs_nil hs2) hs1) hn hst) hs hw ha, fun A0 O E G σ H D o G' R hm p => ?_⟩
  show t1 σ H fun v H1 => t2 σ H1 fun w H2 => [v, w].length ≤ sizeLine ∧ ∀ p, H2 p = none → ∃ a xs, V.ref p = .ref a ∧ SqT X.K (upd H2 p (.tup [v, w])) a xs ∧ xs.length = 2 ∧ ∃ v' vs, xs = v' :: vs ∧ gName i v' σ (upd H2 p (.tup [v, w])) fun σ1 H3 => ∃ v' vs', vs = v' :: vs' ∧ gName j v' σ1 H3 fun σ2 H4 => vs' = [] ∧ D.nx σ2 H4
  refine par_core i j q1 h1.no q2 h2.no A0 O E G σ H D o G' _ R hm p fun E' e O' v w H' R' s' => ⟨sz (by simp), fun a na => ⟨a, [v, w], rfl, .inl (.inl upd_same), rfl, v, [w], rfl, ?_⟩⟩
  subst e
  show ∃ v' vs', [w] = v' :: vs' ∧ gName j v' (σ.set i (some v)) _ _
  refine ⟨w, [], rfl, ?_⟩
  show [] = [] ∧ D.nx ((σ.set i (some v)).set j (some w)) _
  exact ⟨rfl, p O' _ _ (R'.ext (Kept.new na).ext ((Kept.new na).jr R'.rel.jr)) (s'.trans (.of (Kept.new na).ext))⟩
end
end Zd

set_option maxRecDepth 100000
set_option maxHeartbeats 4000000
namespace Zd
open PySem PySem.Spec L2
open PyProof.Rows hiding St

/-! ### dicts told by a list -/
section
variable {β : Type} (kf : β → GK) (vf : β → PyData)
def kvL (l : List β) : List (PyData × PyData) := l.map fun b => (keyG (kf b), vf b)
theorem kvL_length (l : List β) : (kvL kf vf l).length = l.length := by simp [kvL]
theorem kvL_keys (l : List β) : (kvL kf vf l).map (·.1) = l.map fun b => keyG (kf b) := by simp [kvL]
theorem kvL_fit {l : List β} {k : GK} (h : ∀ b ∈ l, likeG (kf b) k = true) : fitB (kvL kf vf l) k = true := by
  unfold fitB kvL
  rw [List.all_map, List.all_eq_true]
  intro b hb
  simp only [Function.comp_apply, keyOf_keyG]
  exact h b hb
theorem kvL_some (k : GK) : ∀ l : List β, (getD (kvL kf vf l) k).isSome = l.any fun b => decide (kf b = k)
  | [] => rfl
  | b :: l => by
    have ih := kvL_some k l
    unfold getD kvL at ih ⊢
    rw [List.map_cons]
    by_cases h : kf b = k
    · rw [List.find?_cons_of_pos (by simp [keyOf_keyG, h])]
      simp [h]
    · rw [List.find?_cons_of_neg (by simp [keyOf_keyG, h]), ih]
      simp [h]
theorem kvL_get : ∀ {l : List β}, (l.map kf).Nodup → ∀ {b : β}, b ∈ l → getD (kvL kf vf l) (kf b) = some (vf b)
  | c :: l, nd, b, hb => by
    rw [List.map_cons, List.nodup_cons] at nd
    unfold getD kvL
    rw [List.map_cons]
    rcases List.mem_cons.mp hb with rfl | hb
    · rw [List.find?_cons_of_pos (by simp [keyOf_keyG])]
      rfl
    · have : kf c ≠ kf b := fun e => nd.1 (e ▸ List.mem_map.mpr ⟨b, hb, rfl⟩)
      rw [List.find?_cons_of_neg (by simp [keyOf_keyG, this])]
      exact kvL_get nd.2 hb
theorem kvL_put {l : List β} {b : β} (h : kf b ∉ l.map kf) : putD (kvL kf vf l) (kf b) (vf b) = kvL kf vf (l ++ [b]) := by
  unfold putD
  rw [if_neg]
  · simp [kvL]
  · unfold kvL
    simp only [List.any_map, List.any_eq_true, not_exists, not_and]
    intro c hc
    simp only [Function.comp_apply, keyOf_keyG, Option.some.injEq, decide_eq_true_eq]
    exact fun e => h (List.mem_map.mpr ⟨c, hc, e⟩)
theorem kvL_fold : ∀ {l acc : List β}, ((acc ++ l).map kf).Nodup → l.foldl (fun a b => putD a (kf b) (vf b)) (kvL kf vf acc) = kvL kf vf (acc ++ l)
  | [], acc, _ => by simp
  | b :: l, acc, nd => by
    rw [List.foldl_cons, kvL_put kf vf, kvL_fold (l := l) (acc := acc ++ [b]) (by simpa using nd)]
    · simp
    · rw [List.map_append, List.nodup_append] at nd
      exact fun z => nd.2.2 _ z (kf b) (by simp) rfl
end
/-- d[k] in a dict told by a list -/
theorem ix_kvL {β : Type} {kf : β → GK} {vf : β → PyData} {l : List β} {b : β} {d : PyData} (hd : keyOf d = some (kf b)) (nd : (l.map kf).Nodup) (hf : ∀ c ∈ l, likeG (kf c) (kf b) = true) (hb : b ∈ l) : ixD (.dict (kvL kf vf l)) d = some (vf b) := by
  show (keyOf d).bind _ = _
  rw [hd]
  simp only [Option.bind]
  rw [if_pos (kvL_fit kf vf hf), kvL_get kf vf nd hb]
theorem inB_kvL {β : Type} {kf : β → GK} {vf : β → PyData} {l : List β} {k : GK} (hf : ∀ c ∈ l, likeG (kf c) k = true) : inB (keyG k) (.dict (kvL kf vf l)) = some (l.any fun b => decide (kf b = k)) := by
  have h : inB (keyG k) (.dict (kvL kf vf l)) = (keyOf (keyG k)).bind fun k => if fitB (kvL kf vf l) k then some (getD (kvL kf vf l) k).isSome else none := by
    cases k with
    | inl k => cases k <;> rfl
    | inr ks => rfl
  rw [h, keyOf_keyG]
  simp only [Option.bind]
  rw [if_pos (kvL_fit kf vf hf), kvL_some]

/-! ### lots: things of one kind, that can be sorted -/
structure Lot (α : Type) [DecidableEq α] where
  key : α → GK
  el : α → Prop
  srt : List α → List α
  rise : List α → Prop
  inj : ∀ a b, key a = key b → a = b
  like : ∀ a b, likeG (key a) (key b) = true
  set_ok : ∀ l, l.length < 64 → (∀ a ∈ l, el a) → setFl (l.map fun a => keyG (key a)) = some (.list ((srt l).map fun a => keyG (key a)))
  srt_rise : ∀ l, (∀ a ∈ l, el a) → rise (srt l)
  srt_mem : ∀ l a, a ∈ srt l ↔ a ∈ l
  uniq : ∀ l m, rise l → rise m → (∀ a, a ∈ l ↔ a ∈ m) → l = m
  nd : ∀ l, rise l → l.Nodup
  flt : ∀ l p, rise l → rise (l.filter p)
  eqv : ∀ a b, PyData.eqv (keyG (key a)) (keyG (key b)) = decide (a = b)
  shp : ∀ a, SeqAt.shaped (keyG (key a)) = true
  shpT : ∀ l : List α, SeqAt.shaped (.tuple (l.map fun a => keyG (key a))) = true
  shpL : ∀ l : List α, SeqAt.shaped (.list (l.map fun a => keyG (key a))) = true
  srt_len : ∀ l, (srt l).length ≤ l.length
namespace Lot
variable {α : Type} [DecidableEq α] (L : Lot α)
def en (a : α) : PyData := keyG (L.key a)
def ens (l : List α) : List PyData := l.map L.en
/-- a dict of these, all at v -/
def dc (v : PyData) (l : List α) : PyData := .dict (kvL L.key (fun _ => v) l)
theorem mem_key {a : α} {l : List α} : L.key a ∈ l.map L.key ↔ a ∈ l := by
  rw [List.mem_map]
  exact ⟨fun ⟨b, h1, h2⟩ => L.inj _ _ h2 ▸ h1, fun h => ⟨a, h, rfl⟩⟩
theorem nd_key {l : List α} (h : l.Nodup) : (l.map L.key).Nodup := by
  unfold List.Nodup at *
  rw [List.pairwise_map]
  exact h.imp fun q e => q (L.inj _ _ e)
theorem in_dc (v : PyData) (a : α) (l : List α) : inB (L.en a) (L.dc v l) = some (decide (a ∈ l)) := by
  have := inB_kvL (kf := L.key) (vf := fun _ => v) (l := l) (k := L.key a) fun c _ => L.like _ _
  have e : (l.any fun b => decide (L.key b = L.key a)) = decide (a ∈ l) := by
    rw [Bool.eq_iff_iff, List.any_eq_true, decide_eq_true_eq]
    constructor
    · rintro ⟨b, hb, h⟩
      rw [decide_eq_true_eq] at h
      exact L.inj _ _ h ▸ hb
    · exact fun h => ⟨a, h, by simp⟩
  rw [e] at this
  exact this
theorem any_eqv (a : α) (l : List α) : ((L.ens l).any fun z => PyData.eqv z (L.en a)) = decide (a ∈ l) := by
  unfold ens
  rw [List.any_map, Bool.eq_iff_iff]
  simp only [List.any_eq_true, Function.comp_apply, decide_eq_true_eq]
  constructor
  · rintro ⟨b, hb, h⟩
    have := (L.eqv b a).symm.trans h
    rw [decide_eq_true_eq] at this
    exact this ▸ hb
  · intro h
    exact ⟨a, h, (L.eqv a a).trans (by simp)⟩
theorem in_tup (a : α) (l : List α) : inB (L.en a) (.tuple (L.ens l)) = some (decide (a ∈ l)) := by
  rw [← L.any_eqv a l]
  have h : (SeqAt.shaped (L.en a) && SeqAt.shaped (.tuple (L.ens l))) = true := by rw [Bool.and_eq_true]; exact ⟨L.shp a, L.shpT l⟩
  have e : inB (L.en a) (.tuple (L.ens l)) = if SeqAt.shaped (L.en a) && SeqAt.shaped (.tuple (L.ens l)) then some ((L.ens l).any fun z => PyData.eqv z (L.en a)) else none := by
    generalize L.en a = z
    cases z <;> rfl
  rw [e, if_pos h]
theorem in_lst (a : α) (l : List α) : inB (L.en a) (.list (L.ens l)) = some (decide (a ∈ l)) := by
  rw [← L.any_eqv a l]
  have h : (SeqAt.shaped (L.en a) && SeqAt.shaped (.list (L.ens l))) = true := by rw [Bool.and_eq_true]; exact ⟨L.shp a, L.shpL l⟩
  have e : inB (L.en a) (.list (L.ens l)) = if SeqAt.shaped (L.en a) && SeqAt.shaped (.list (L.ens l)) then some ((L.ens l).any fun z => PyData.eqv z (L.en a)) else none := by
    generalize L.en a = z
    cases z <;> rfl
  rw [e, if_pos h]
theorem lst_dc (v : PyData) (l : List α) : lstF [L.dc v l] = some (.list (L.ens l)) := by
  show some (PyData.list _) = _
  rw [kvL_keys] <;> rfl
theorem srt_of {l : List α} (h : L.rise l) (he : ∀ a ∈ l, L.el a) : L.srt l = l := L.uniq _ _ (L.srt_rise l he) h (L.srt_mem l)
/-- what is kept of two sides -/
def mrg (b l r : List α) : List α := (L.srt (l ++ r)).filter fun x => (decide (x ∈ l) && decide (x ∈ r)) || !decide (x ∈ b)
theorem mrg_mem {b l r : List α} {x : α} : x ∈ L.mrg b l r ↔ (x ∈ l ∨ x ∈ r) ∧ ((x ∈ l ∧ x ∈ r) ∨ x ∉ b) := by
  unfold mrg
  rw [List.mem_filter, L.srt_mem, List.mem_append]
  simp
theorem mrg_rise {b l r : List α} (hl : ∀ a ∈ l, L.el a) (hr : ∀ a ∈ r, L.el a) : L.rise (L.mrg b l r) := L.flt _ _ (L.srt_rise _ fun a h => (List.mem_append.mp h).elim (hl a) (hr a))
theorem mrg_el {b l r : List α} (hl : ∀ a ∈ l, L.el a) (hr : ∀ a ∈ r, L.el a) : ∀ a ∈ L.mrg b l r, L.el a := fun a h => ((L.mrg_mem).mp h).1.elim (hl a) (hr a)
theorem mrg_comm {b l r : List α} (hl : ∀ a ∈ l, L.el a) (hr : ∀ a ∈ r, L.el a) : L.mrg b r l = L.mrg b l r := L.uniq _ _ (L.mrg_rise hr hl) (L.mrg_rise hl hr) fun x => by
  rw [mrg_mem, mrg_mem, or_comm (a := x ∈ r), and_comm (a := x ∈ r)]
theorem mrg_bl {b r : List α} (h : L.rise r) (hb : ∀ a ∈ b, L.el a) (hr : ∀ a ∈ r, L.el a) : L.mrg b b r = r := L.uniq _ _ (L.mrg_rise hb hr) h fun x => by
  rw [mrg_mem]
  by_cases h1 : x ∈ b <;> by_cases h2 : x ∈ r <;> simp [h1, h2]
theorem mrg_br {b l : List α} (h : L.rise l) (hb : ∀ a ∈ b, L.el a) (hl : ∀ a ∈ l, L.el a) : L.mrg b l b = l := L.uniq _ _ (L.mrg_rise hl hb) h fun x => by
  rw [mrg_mem]
  by_cases h1 : x ∈ b <;> by_cases h2 : x ∈ l <;> simp [h1, h2]
theorem mrg_ll {b l : List α} (h : L.rise l) (hl : ∀ a ∈ l, L.el a) : L.mrg b l l = l := L.uniq _ _ (L.mrg_rise hl hl) h fun x => by
  rw [mrg_mem]
  by_cases h2 : x ∈ l <;> simp [h2]
theorem mrg_len {b l r : List α} : (L.mrg b l r).length ≤ l.length + r.length := by
  unfold mrg
  refine Nat.le_trans (List.length_filter_le _ _) (Nat.le_trans (L.srt_len _) ?_)
  rw [List.length_append]
  exact Nat.le_refl _
end Lot
theorem eraseDups_len {α : Type} [BEq α] [LawfulBEq α] : ∀ (n : Nat) (l : List α), l.length ≤ n → l.eraseDups.length ≤ l.length
  | 0, [], _ => by simp
  | n + 1, [], _ => by simp
  | n + 1, a :: l, h => by
    rw [List.eraseDups_cons, List.length_cons, List.length_cons]
    have h1 := List.length_filter_le (fun b => !b == a) l
    have h2 := eraseDups_len n (l.filter fun b => !b == a) (Nat.le_trans h1 (by simpa using h))
    omega
/-- whole numbers -/
def lotI : Lot Int where
  key := fun n => .inl (.inl n)
  el := fun _ => True
  srt := setI
  rise := fun l => l.Pairwise (· < ·)
  inj := fun a b e => by cases e; rfl
  like := fun _ _ => rfl
  set_ok := fun l h _ => by
    show setFl (l.map PyData.int) = _
    unfold setFl
    rw [List.length_map, if_pos h, ints_of]
    rfl
  srt_rise := fun l _ => setI_rise l
  srt_mem := fun l a => setI_mem l a
  uniq := fun l m h g e => rise_uniq h g e
  nd := fun l h => h.imp fun q => Int.ne_of_lt q
  flt := fun l p h => h.filter p
  eqv := fun a b => by
    show (a == b) = _
    rw [Bool.eq_iff_iff]; simp
  shp := fun a => shaped_int a
  shpT := fun l => shaped_intsT l
  shpL := fun l => shaped_ints l
  srt_len := fun l => by
    unfold setI
    rw [List.length_mergeSort]
    exact eraseDups_len _ l (Nat.le_refl _)
theorem eqvAll_ints : ∀ a b : List Int, PyData.eqvAll (a.map .int) (b.map .int) = decide (a = b)
  | [], [] => rfl
  | [], _ :: _ => rfl
  | _ :: _, [] => rfl
  | x :: a, y :: b => by
    rw [List.map_cons, List.map_cons]
    simp only [PyData.eqvAll, PyData.eqv, eqvAll_ints a b]
    rw [Bool.eq_iff_iff]
    simp
theorem tupI_key (k : List Int) : keyG (.inr (k.map Sum.inl)) = tupI k := by
  show PyData.tuple _ = PyData.tuple _
  rw [List.map_map] <;> rfl
theorem tupsOf_map : ∀ ks : List (List Int), tupsOf (ks.map tupI) = some ks
  | [] => rfl
  | k :: ks => by
    rw [List.map_cons]
    unfold tupsOf
    show (intsOf (k.map .int)).bind _ = _
    rw [ints_of, tupsOf_map ks]
    rfl
theorem can_tups : ∀ ks : List (List Int), PyData.canLayAll0 (ks.map tupI) = true
  | [] => rfl
  | k :: ks => by
    rw [List.map_cons]
    simp only [PyData.canLayAll0, tupI, PyData.canLay0, can_ints, can_tups ks, Bool.and_self]
theorem depth_tups : ∀ ks : List (List Int), PyData.depthAll (ks.map tupI) ≤ 3
  | [] => by simp [PyData.depthAll]
  | k :: ks => by
    rw [List.map_cons]
    have h1 := depth_tups ks
    have h2 := depth_ints k
    simp only [PyData.depthAll, tupI, PyData.depth]
    omega
theorem setT_mem (ks : List (List Int)) (k : List Int) : k ∈ setT ks ↔ k ∈ ks := by
  unfold setT
  rw [List.mem_mergeSort, List.mem_eraseDups]
/-- rows of d whole numbers from 0 to 999 -/
def lotR (d : Nat) (hd : 1 ≤ d) : Lot (List Int) where
  key := fun k => .inr (k.map Sum.inl)
  el := fun k => k.length = d ∧ TS.Bd 1000 k
  srt := setT
  rise := fun l => l.Pairwise (fun a b => TS.code 1000 a < TS.code 1000 b)
  inj := fun a b e => by
    have e := Sum.inr.inj e
    exact List.map_inj_right (fun x y h => Sum.inl.inj h) |>.mp e
  like := fun _ _ => rfl
  set_ok := fun l h he => by
    have e1 : (l.map fun a => keyG (.inr (a.map Sum.inl))) = l.map tupI := List.map_congr_left fun a _ => tupI_key a
    have e2 : ((setT l).map fun a => keyG (.inr (a.map Sum.inl))) = (setT l).map tupI := List.map_congr_left fun a _ => tupI_key a
    rw [e1, e2]
    unfold setFl
    rw [List.length_map, if_pos h]
    cases l with
    | nil => rw [show setT [] = [] by simp [setT]]; show some (PyData.list ((setI []).map .int)) = _; rw [show setI [] = [] by simp [setI]]; rfl
    | cons k r =>
      have : intsOf ((k :: r).map tupI) = none := rfl
      rw [this]
      simp only
      rw [tupsOf_map]
      simp only [Option.bind]
      rw [if_pos]
      unfold okT
      simp only [Bool.and_eq_true, decide_eq_true_eq, List.all_eq_true]
      have hk := he k List.mem_cons_self
      refine ⟨by omega, fun l hl => ⟨?_, fun i hi => ?_⟩⟩
      · have := he l hl
        simp [this.1, hk.1]
      · have := (he l hl).2 i hi
        exact ⟨this.1, this.2⟩
  srt_rise := fun l he => by
    have h1 : (setT l).Pairwise fun a b => TS.code 1000 a ≤ TS.code 1000 b := by
      have := List.pairwise_mergeSort (le := codeLe) (fun a b c h1 h2 => by unfold codeLe at *; simp at *; omega) (fun a b => by unfold codeLe; simp; omega) l.eraseDups
      exact this.imp fun h => by unfold codeLe at h; simpa using h
    have h2 : (setT l).Nodup := (List.mergeSort_perm _ _).nodup_iff.mpr (nodup_eraseDups l)
    have h3 := h1.and h2
    refine h3.imp_of_mem fun {a b} ha hb ⟨q1, q2⟩ => ?_
    have ea := he a ((setT_mem l a).mp ha)
    have eb := he b ((setT_mem l b).mp hb)
    have : TS.code 1000 a ≠ TS.code 1000 b := fun e => q2 (code_inj (ea.1.trans eb.1.symm) ea.2 eb.2 e)
    omega
  srt_mem := setT_mem
  uniq := fun l m h g e => by
    have nl : l.Nodup := h.imp fun q z => by rw [z] at q; omega
    have nm : m.Nodup := g.imp fun q z => by rw [z] at q; omega
    exact List.Perm.eq_of_pairwise (le := fun a b => TS.code 1000 a < TS.code 1000 b) (fun a b _ _ x y => by omega) h g ((List.perm_ext_iff_of_nodup nl nm).mpr e)
  nd := fun l h => h.imp fun q z => by rw [z] at q; omega
  flt := fun l p h => h.filter p
  eqv := fun a b => by
    rw [tupI_key, tupI_key]
    show PyData.eqvAll _ _ = _
    exact eqvAll_ints a b
  shp := fun a => by rw [tupI_key]; exact shaped_intsT a
  shpT := fun l => by
    rw [show (l.map fun a => keyG (.inr (a.map Sum.inl))) = l.map tupI from List.map_congr_left fun a _ => tupI_key a]
    have := depth_tups l
    have h : (PyData.depthAll (l.map tupI)) + 1 ≤ 30 := by omega
    simp [SeqAt.shaped, PyData.canLay0, can_tups, PyData.depth]
    omega
  shpL := fun l => by
    rw [show (l.map fun a => keyG (.inr (a.map Sum.inl))) = l.map tupI from List.map_congr_left fun a _ => tupI_key a]
    have := depth_tups l
    have h : (PyData.depthAll (l.map tupI)) + 1 ≤ 30 := by omega
    simp [SeqAt.shaped, PyData.canLay0, can_tups, PyData.depth]
    omega
  srt_len := fun l => by
    unfold setT
    rw [List.length_mergeSort]
    exact eraseDups_len _ l (Nat.le_refl _)
/-- rows that rise are sorted -/
theorem lex_code {B : Int} : ∀ {a b : List Int}, a.length = b.length → TS.Bd B a → TS.Bd B b → b < a → TS.code B b < TS.code B a
  | [], [], _, _, _, h => by cases h
  | [], _ :: _, h, _, _, _ => by cases h
  | _ :: _, [], h, _, _, _ => by cases h
  | x :: r, y :: q, h, ha, hb, g => by
    have hl : r.length = q.length := by simpa using h
    rcases List.cons_lt_cons_iff.mp g with g1 | ⟨e, g1⟩
    · exact TS.code_lt hl.symm hb.tail ha.tail g1
    · subst e
      have ih := lex_code hl ha.tail hb.tail g1
      show y * B ^ q.length + TS.code B q < y * B ^ r.length + TS.code B r
      rw [hl]
      omega
theorem data_le_tup {d : Nat} {a b : List Int} (ha : a.length = d ∧ TS.Bd 1000 a) (hb : b.length = d ∧ TS.Bd 1000 b) (h : TS.code 1000 a ≤ TS.code 1000 b) : PySem.W.dataLe false id (tupI a) (tupI b) = true := by
  show (!PySem.W.dataLt (.tuple (b.map .int)) (.tuple (a.map .int))) = true
  rw [PySem.W.dataLt_tuple]
  show (!PySem.W.rowLt (b.map .int) (a.map .int)) = true
  rw [PySem.W.dataLt_ints]
  have : ¬ b < a := fun g => by
    have := lex_code (ha.1.trans hb.1.symm) ha.2 hb.2 g
    omega
  simp [this]
theorem sort_tups {d : Nat} (hd : 1 ≤ d) {l : List (List Int)} (h : (lotR d hd).rise l) (he : ∀ a ∈ l, a.length = d ∧ TS.Bd 1000 a) : sortF [.list (l.map tupI)] = some (.list (l.map tupI)) := by
  have h1 : alikeB (l.map tupI) = true := by
    unfold alikeB
    rw [List.all_eq_true]
    intro x hx
    rw [List.all_eq_true]
    intro y hy
    obtain ⟨a, ha, rfl⟩ := List.mem_map.mp hx
    obtain ⟨b, hb, rfl⟩ := List.mem_map.mp hy
    have go : ∀ a b : List Int, PySem.W.alikeAll (a.map .int) (b.map .int) = true := fun a => by
      induction a with
      | nil => intro b; cases b <;> simp [PySem.W.alikeAll]
      | cons x a ih =>
        intro b
        cases b with
        | nil => simp [PySem.W.alikeAll]
        | cons y b => simp [PySem.W.alikeAll, PySem.W.alike, ih b]
    simp only [tupI, PySem.W.alike]
    exact go a b
  have h2 : sortableB (l.map tupI) = true := by
    unfold sortableB
    rw [Bool.or_eq_true]
    left
    rw [List.all_eq_true]
    intro x hx
    obtain ⟨a, ha, rfl⟩ := List.mem_map.mp hx
    have := (he a ha).1
    cases a with
    | nil => simp at this; omega
    | cons _ _ => rfl
  have h3 : (l.map tupI).all SeqAt.shaped = true := by
    rw [List.all_eq_true]
    intro x hx
    obtain ⟨a, ha, rfl⟩ := List.mem_map.mp hx
    exact shaped_intsT a
  unfold sortF
  simp only
  rw [if_pos (by rw [h1, h2, h3]; rfl), List.mergeSort_of_pairwise]
  rw [List.pairwise_map]
  exact (show l.Pairwise _ from h).imp_of_mem fun {a b} ha hb q => data_le_tup (he a ha) (he b hb) (by omega)
end Zd

set_option maxRecDepth 100000
set_option maxHeartbeats 4000000
namespace Zd
open PySem PySem.Spec L2
open PyProof.Rows hiding St

/-! ### enumerate(tuple): turned from the list's case -/
section
open AutoSeq1 (wpAny_loadPart')
theorem enumT_new (l : Addr) (items : Array Value) (n : Nat) (dct : Option Addr) (sl : Array (Option Value)) :
    Meets (Builtin.«enumerate.__new__» ⟨[.type "enumerate", .ref l], []⟩) (fun _ R s => s.heap.get? l = some { cls := .type "tuple", dict := dct, data := .seq items n, slots := sl } ∧
      R (.ok (.ret (.ref (s.heap.push { cls := .type "tuple_iterator", data := .fields #[.ref l, .int 0 0] }).objs.size)))
        { s with heap := (s.heap.push { cls := .type "tuple_iterator", data := .fields #[.ref l, .int 0 0] }).push { cls := .type "enumerate", data := .fields #[.none, .bool false, .ref s.heap.objs.size, rawInt 0, .none, .none] } }) :=
  .of_wp fun prog w A R s h => by
    obtain ⟨hp, g, d, tk, os⟩ := s; obtain ⟨hl, h⟩ := h
    have hsub := sub_enumerate
    have hT : Heap.IsTuple (Shared.heap ⟨hp, g, d, tk, os⟩) l items := ⟨_, hl, rfl, n, rfl⟩
    wp_walk using wpAny_loadPart' hl
    refine wpAny_stack_any fun st => wpAny_pure ?_
    split
    · rename_i c _ _ _ _ _
      cases (c == Value.type "enumerate")
      · wp_walk using wpAny_loadPart' hl, wpAny_pyIter_tuple hT
        exact ⟨_, rfl, h⟩
      · wp_walk using wpAny_loadPart' hl, wpAny_pyIter_tuple hT
        exact ⟨_, rfl, h⟩
    · wp_walk using wpAny_loadPart' hl, wpAny_pyIter_tuple hT
      exact ⟨_, rfl, h⟩
end
section
variable {prog : Program} {w : World} {A : Around} {E : Value → Shared → Prop} {s : Shared}
theorem tupIter_but {h h' : Heap} {a b l i} (x : h.IsTupleIter a l i) (hs : Heap.ExtBut b h h') (hab : a ≠ b) : h'.IsTupleIter a l i := x.at fun o e => hs a o hab e
theorem enumT_call {l : Addr} {items : Array Value} {Q : Value → Shared → Prop} (hL : s.heap.IsTuple l items)
    (h : ∀ h', IsEnum h' (s.heap.objs.size + 1) s.heap.objs.size 0 .none → h'.IsTupleIter s.heap.objs.size l 0 → h'.objs.size = s.heap.objs.size + 2 →
      (∀ b o, s.heap.get? b = some o → h'.get? b = some o) → Q (.ref (s.heap.objs.size + 1)) { s with heap := h' }) : wpAny (model prog w) A (call (.type "enumerate") [.ref l]) Q E s := by
  obtain ⟨⟨c, dct, dt, sl⟩, hl, hc, n, hd⟩ := hL
  replace hc : c = .type "tuple" := hc
  replace hd : dt = .seq items n := hd
  subst hc hd
  refine callType_new F.called_enumerate (by decide) (F.typeCall_enumerate_1 _) (F.newCall_enumerate_1 _) (fun obj => F.args_object_init_2 obj _) F.entry_enumerate_new (enumT_new l items n dct sl) ⟨hl, ?_⟩
  have hz : (s.heap.push { cls := .type "tuple_iterator", data := .fields #[.ref l, .int 0 0] }).objs.size = s.heap.objs.size + 1 := Heap.size_push ..
  show _ ∧ _
  rw [hz]
  have he : IsEnum ((s.heap.push { cls := .type "tuple_iterator", data := .fields #[.ref l, .int 0 0] }).push { cls := .type "enumerate", data := .fields #[.none, .bool false, .ref s.heap.objs.size, rawInt 0, .none, .none] }) (s.heap.objs.size + 1) s.heap.objs.size 0 .none := by
    have := Heap.get?_push_size (s.heap.push { cls := .type "tuple_iterator", data := .fields #[.ref l, .int 0 0] }) (o := { cls := .type "enumerate", data := .fields #[.none, .bool false, .ref s.heap.objs.size, rawInt 0, .none, .none] }) rfl
    rw [hz] at this; exact this
  exact ⟨⟨_, he, rfl⟩, h _ he ⟨_, Heap.get?_push_of_some _ (Heap.get?_push_size _ rfl), rfl, rfl⟩ (by rw [Heap.size_push, hz]) fun b o x => Heap.get?_push_of_some _ (Heap.get?_push_of_some _ x)⟩
theorem enumT_next {e it l : Addr} {i : Nat} {items : Array Value} {x old : Value} {Q : Value → Shared → Prop}
    (he : IsEnum s.heap e it i old) (hit : s.heap.IsTupleIter it l i) (hl : s.heap.IsTuple l items) (hx : items[i]? = some x) (hne : e ≠ it)
    (hQ : ∀ h', IsEnumOut h' e it ((i : Int) + 1) x s.heap.objs.size → h'.IsTupleIter it l (i + 1) → h'.get? s.heap.objs.size = some { cls := .type "tuple", data := .seq #[.int i s.toks, x] } → h'.objs.size = s.heap.objs.size + 1 →
      (∀ b o, b ≠ e → b ≠ it → s.heap.get? b = some o → h'.get? b = some o) → Q (.ref s.heap.objs.size) { s with heap := h', toks := s.toks + 1 }) :
    wpAny (model prog w) A (Builtin.«enumerate.__next__» ⟨[.ref e], []⟩) (fun fin s' => ∃ v, fin = .done (.ret v) ∧ Q v s') E s := by
  obtain ⟨hp, g, d, tk, os⟩ := s
  show wpAny _ _ (field (.ref e) 2 >>= _) _ _ _
  refine wpAny_bind (wpAny_field he rfl (x := .ref it) rfl ?_)
  refine wpAny_bind (RZ.nextOf_tuple_item hit hl hx fun h₁ hit₁ hs₁ => ?_)
  replace hs₁ : Heap.SameBut it hp h₁ := hs₁
  have he₁ : IsEnum h₁ e it i old := (hs₁.2 e hne).trans he
  show wpAny _ _ (field (.ref e) 3 >>= _) _ _ ⟨h₁, g, d, tk, os⟩
  refine wpAny_bind (wpAny_field he₁ rfl (x := rawInt i) rfl ?_)
  show wpAny _ _ (field (.ref e) 4 >>= _) _ _ ⟨h₁, g, d, tk, os⟩
  refine wpAny_bind (wpAny_field he₁ rfl (x := .none) rfl ?_)
  show wpAny _ _ (mkInt i >>= _) _ _ ⟨h₁, g, d, tk, os⟩
  refine wpAny_bind (wpAny_mkInt ?_)
  show wpAny _ _ (setField (.ref e) 3 (rawInt ((i : Int) + 1)) >>= _) _ _ ⟨h₁, g, d, tk + 1, os⟩
  refine wpAny_bind (wpAny_setField_rec he₁ (by simp) fun h₂ he₂ hs₂ => ?_)
  replace hs₂ : Heap.SameBut e h₁ h₂ := hs₂
  replace he₂ : IsEnum h₂ e it ((i : Int) + 1) old := he₂
  show wpAny _ _ (setField (.ref e) 4 .none >>= _) _ _ ⟨h₂, g, d, tk + 1, os⟩
  refine wpAny_bind (wpAny_setField_rec he₂ (by simp) fun h₃ he₃ hs₃ => ?_)
  replace hs₃ : Heap.SameBut e h₂ h₃ := hs₃
  replace he₃ : IsEnum h₃ e it ((i : Int) + 1) old := he₃
  show wpAny _ _ (newTuple [.int i tk, x] >>= _) _ _ ⟨h₃, g, d, tk + 1, os⟩
  refine wpAny_bind (wpAny_newTuple ?_)
  have he₄ : IsEnum (h₃.push { cls := .type "tuple", data := .seq #[.int i tk, x] }) e it ((i : Int) + 1) old := Heap.get?_push_of_some _ he₃
  generalize hh₄ : h₃.push { cls := .type "tuple", data := .seq #[.int i tk, x] } = h₄ at he₄
  have hsz : h₃.objs.size = hp.objs.size := by rw [hs₃.1, hs₂.1, hs₁.1]
  have hel : e < hp.objs.size := Heap.lt_size he
  have ht₄ : h₄.get? hp.objs.size = some { cls := .type "tuple", data := .seq #[.int i tk, x] } := by rw [← hh₄, ← hsz]; exact Heap.get?_push_size _ rfl
  have hz₄ : h₄.objs.size = hp.objs.size + 1 := by rw [← hh₄, Heap.size_push, hsz]
  have hk₄ : ∀ b o, b ≠ e → b ≠ it → hp.get? b = some o → h₄.get? b = some o := fun b o hbe hbi hb => by
    rw [← hh₄]; exact Heap.get?_push_of_some _ (hs₃.extBut b o hbe (hs₂.extBut b o hbe (hs₁.extBut b o hbi hb)))
  have hit₄ : h₄.IsTupleIter it l (i + 1) := by
    rw [← hh₄]
    exact (tupIter_but (tupIter_but hit₁ hs₂.extBut (Ne.symm hne)) hs₃.extBut (Ne.symm hne)).at fun o ho => Heap.get?_push_of_some _ ho
  show wpAny _ _ (Builtin.SmallTypes.ownedTupleIsFree (.ref e) >>= _) _ _ ⟨h₄, g, d, tk + 1, os⟩
  rw [hsz]
  clear hh₄ he₃ hs₃ he₂ hs₂ he₁ hs₁ hit₁ hsz h₃ h₂ h₁
  refine wpAny_bind ?_
  unfold Builtin.SmallTypes.ownedTupleIsFree
  refine wpAny_bind (wpAny_field he₄ rfl (x := .none) rfl (wpAny_pure ?_))
  simp only [if_true]
  refine wpAny_bind (wpAny_rule ?_)
  refine wpAny_bind (wpAny_field he₄ rfl (x := old) rfl ?_)
  refine wpAny_bind (wpAny_setField_rec he₄ (by simp) fun h₅ he₅ hs₅ => ?_)
  replace hs₅ : Heap.SameBut e h₄ h₅ := hs₅
  replace he₅ : IsEnum h₅ e it ((i : Int) + 1) x := he₅
  show wpAny _ _ (Builtin.SmallTypes.ownedTupleHandOut (.ref e) (.ref hp.objs.size) >>= _) _ _ ⟨h₅, g, d, tk + 1, os⟩
  refine wpAny_bind ?_
  unfold Builtin.SmallTypes.ownedTupleHandOut
  refine wpAny_bind (wpAny_setField_rec he₅ (by simp) fun h₆ he₆ hs₆ => ?_)
  replace hs₆ : Heap.SameBut e h₅ h₆ := hs₆
  replace he₆ : IsEnumOut h₆ e it ((i : Int) + 1) x hp.objs.size := he₆
  refine wpAny_setField_rec he₆ (by simp) fun h₇ he₇ hs₇ => ?_
  replace hs₇ : Heap.SameBut e h₆ h₇ := hs₇
  replace he₇ : IsEnumOut h₇ e it ((i : Int) + 1) x hp.objs.size := he₇
  refine wpAny_bind (wpAny_letGo (wpAny_pure ⟨_, rfl, hQ h₇ he₇ ?_ ?_ ?_ ?_⟩))
  · exact tupIter_but (tupIter_but (tupIter_but hit₄ hs₅.extBut (Ne.symm hne)) hs₆.extBut (Ne.symm hne)) hs₇.extBut (Ne.symm hne)
  · exact hs₇.extBut _ _ (Nat.ne_of_gt hel) (hs₆.extBut _ _ (Nat.ne_of_gt hel) (hs₅.extBut _ _ (Nat.ne_of_gt hel) ht₄))
  · rw [hs₇.1, hs₆.1, hs₅.1, hz₄]
  · exact fun b o hbe hbi hb => hs₇.extBut b o hbe (hs₆.extBut b o hbe (hs₅.extBut b o hbe (hk₄ b o hbe hbi hb)))
theorem enumT_item {e it l : Addr} {i : Nat} {items : Array Value} {x old : Value} {Q : Option Value → Shared → Prop}
    (he : IsEnum s.heap e it i old) (hit : s.heap.IsTupleIter it l i) (hl : s.heap.IsTuple l items) (hx : items[i]? = some x) (hne : e ≠ it)
    (hQ : ∀ h', IsEnumOut h' e it ((i : Int) + 1) x s.heap.objs.size → h'.IsTupleIter it l (i + 1) → h'.get? s.heap.objs.size = some { cls := .type "tuple", data := .seq #[.int i s.toks, x] } → h'.objs.size = s.heap.objs.size + 1 →
      (∀ b o, b ≠ e → b ≠ it → s.heap.get? b = some o → h'.get? b = some o) → Q (some (.ref s.heap.objs.size)) { s with heap := h', toks := s.toks + 1 }) : wpAny (model prog w) A (pyNext (.ref e)) Q E s := by
  have hT : s.TypeIs (.ref e) "enumerate" := ⟨_, he, rfl⟩
  unfold pyNext
  exact wpAny_bind (wpAny_attempt (wpAny_callSpecial?_slot (name := Str.ofString "__next__") hT F.slot_enumerate_next
    (wpAny_call_entry F.slot_enumerate_next hT F.entry_enumerate_next (enumT_next he hit hl hx hne fun h' a b c d k => wpAny_pure (hQ h' a b c d k)) (F.args_enumerate_next_1 _))))
theorem enumT_end {e it l : Addr} {i : Nat} {items : Array Value} {old : Value} {Q : Option Value → Shared → Prop} (hh : A.handled = none) (he : IsEnum s.heap e it i old) (hit : s.heap.IsTupleIter it l i) (hl : s.heap.IsTuple l items) (hx : items[i]? = none)
    (hQ : ∀ h', Heap.ExtBut it s.heap h' → Q none { s with heap := h' }) : wpAny (model prog w) A (pyNext (.ref e)) Q E s := by
  have hT : s.TypeIs (.ref e) "enumerate" := ⟨_, he, rfl⟩
  unfold pyNext
  refine wpAny_bind (wpAny_attempt (wpAny_callSpecial?_slot (name := Str.ofString "__next__") hT F.slot_enumerate_next (wpAny_call_entry F.slot_enumerate_next hT F.entry_enumerate_next ?_ (F.args_enumerate_next_1 _))))
  show wpAny _ _ (field (.ref e) 2 >>= _) _ _ _
  refine wpAny_bind (wpAny_field he rfl (x := .ref it) rfl ?_)
  refine wpAny_bind (RZ.nextOf_tuple_end hh hit hl hx fun h' x he' ⟨o, ho, hc⟩ => ?_)
  refine wpAny_bind (wpAny_isInstance (T := "StopIteration") (b := true) ⟨o, ho, hc⟩ isSubtype_stop ?_)
  exact wpAny_pure (hQ _ he')
end
/-- the tuple at a, each item in a new pair with its place -/
def IteT (K : PySem.W.Frag) (a : Addr) : It :=
  ⟨fun i H => ∃ (xs : List V) (x : V), SqT K H a xs ∧ xs[i]? = some x, fun i H v H' => ∃ T x, v = .ref T ∧ H T = none ∧ H' = upd H T (.tup [.int (i : Nat), x]) ∧ ∀ xs, SqT K H a xs → xs[i]? = some x, fun i H => ∃ xs : List V, SqT K H a xs ∧ xs.length ≤ i⟩
theorem turn_enumT {P : Program} {w : World} {K : PySem.W.Frag} {elts : List Expr} {kk : Nat} {tpos : Pos} (a e it : Addr) :
    Turn P w K (.Tuple elts kk tpos) (IteT K a) [e, it] e (fun i h => (∃ old, IsEnum h e it ((i : Nat) : Int) old) ∧ h.IsTupleIter it a i ∧ e ≠ it) where
  mem := by simp
  obj := fun i h st b hb => by
    obtain ⟨⟨old, he⟩, ⟨o, ho, hc, hd⟩, _⟩ := st
    rcases (show b = e ∨ b = it by simpa using hb) with z | z
    · rw [z]; exact ⟨_, he, fun v q => nomatch q⟩
    · rw [z]; exact ⟨o, ho, fun v q => by rw [hd] at q; cases q⟩
  keep := fun i h h' st k => let ⟨⟨old, he⟩, hi, hne⟩ := st; ⟨⟨old, k e (by simp) _ he⟩, hi.at fun o q => k it (by simp) o q, hne⟩
  item := by
    intro X hP hw hK hc i pins s σ H E I hf st hg
    subst hP hw hK
    obtain ⟨⟨old, he⟩, hit, hne⟩ := st
    obtain ⟨xs, x, hq, hx⟩ := hg
    obtain ⟨its, rv, p, hz⟩ := I.tuple hq
    obtain ⟨u, hu, ru⟩ := rv.get hx
    have hel : e < s.heap.objs.size := Heap.lt_size he
    have hil : it < s.heap.objs.size := by obtain ⟨_, q, _⟩ := hit; exact Heap.lt_size q
    refine enumT_item he hit p (x := u) (by simpa using hu) hne fun h' ho hit' hT hsz hk => ⟨_, rfl, wpAny_letOwnedTupleGo_enum (s := { s with heap := h', toks := s.toks + 1 }) ho fun h'' he' sb => ?_⟩
    have hT2 : h''.get? s.heap.objs.size = some { cls := .type "tuple", data := .seq #[.int i s.toks, u] } := (sb.2 _ (Nat.ne_of_gt hel)).trans hT
    have new : ObjOk X.prog X.w (upd H s.heap.objs.size (.tup [.int (i : Nat), x])) h'' s.heap.objs.size (.tup [.int (i : Nat), x]) :=
      ⟨by show 2 ≤ sizeLine; decide, [.int i s.toks, u], .cons ⟨_, rfl⟩ (.cons ru .nil), ⟨_, hT2, rfl, _, rfl⟩⟩
    have I1 : Inv X pins σ (upd H s.heap.objs.size (.tup [.int (i : Nat), x])) { s with heap := h'', toks := s.toks + 1 } :=
      I.turnedNew (ch := [e, it]) (fun b ob hb q => (sb.2 b (fun z => hb (by simp [z]))).trans (hk b ob (fun z => hb (by simp [z])) (fun z => hb (by simp [z])) q)) hf (Nat.le_refl _) new
    refine ⟨.ref s.heap.objs.size, _, I1, rfl, ⟨_, x, rfl, I.hok.fresh (Nat.le_refl _), rfl, fun ys hy => by rw [I.tuple_inj hy hq]; exact hx⟩, ⟨⟨u, ?_⟩, hit'.at fun o q => (sb.2 it (Ne.symm hne)).trans q, hne⟩, fun b hb => ?_⟩
    · rw [show ((i + 1 : Nat) : Int) = (i : Int) + 1 by omega]; exact he'
    · have hb' : b < s.heap.objs.size := by
        rcases (show b = e ∨ b = it by simpa using hb) with z | z
        · rw [z]; exact hel
        · rw [z]; exact hil
      rw [upd_ne (Nat.ne_of_lt hb')]
      exact (hf b hb).1
  done := by
    intro X hP hw hK hc i pins s σ H E I hf st hg
    subst hP hw hK
    obtain ⟨⟨old, he⟩, hit, hne⟩ := st
    obtain ⟨xs, hq, hx⟩ := hg
    obtain ⟨its, rv, p, hz⟩ := I.tuple hq
    obtain ⟨f0, f1, f2, f3, f4, f5⟩ := hf it (by simp)
    have hl := rv.length
    exact enumT_end (I.ok.hd hc) he hit p (by simp; omega) fun h' eb => ⟨rfl, I.turned (t' := s.toks) (fun b o hb q => eb b o hb q) f0 f1 f3 f4 f5⟩
  self := fun A i s Q E st h => let ⟨⟨_, he⟩, _⟩ := st; wpAny_pyIter_enum he h
/-- enumerate(e), e a list or a tuple -/
def iEnumX (K : PySem.W.Frag) (ta : TA) : TI := fun σ H R => ta σ H fun vs H1 => ∃ a xs, vs = [.ref a] ∧ ((SqL K H1 a xs ∧ R (Ite K a) H1) ∨ (SqT K H1 a xs ∧ R (IteT K a) H1))
section
variable {X : Cx} {C : Cn} {e : Expr} {p pos tpos : Pos} {elts : List Expr} {kk : Nat} {m : Rd PyData} {md : Md}
theorem pi_enumX {ta : TA} (hg : Gl X "enumerate") (hm : X.mg "enumerate" = none) (ha : PA X [e] ta) (hs : starEach [e] X.env = [(false, eval e X.env)] := by rfl) : PI X (.Tuple elts kk tpos) (.Call (.Name "enumerate" p) [e] [] pos) (iEnumX X.K ta) := by
  refine ⟨fun pins s σ H R I h => ?_⟩
  refine Call_ (ld_blt I hg hm boot_enumerate (PyProof.Rows.callWith_type1 (thn (ha.run pos pins s σ H _ I h) fun us s1 ⟨vs, H1, I1, r1, a, xs, ex, q⟩ => ?_) hs rfl))
  subst ex
  rw [Vals.ref1 r1]
  have fr : ∀ b, b ∈ [s1.heap.objs.size + 1, s1.heap.objs.size] → FpOk X pins H1 b := fun b hb => by
    have hle : s1.heap.objs.size ≤ b := by
      rcases (show b = s1.heap.objs.size + 1 ∨ b = s1.heap.objs.size by simpa using hb) with z | z
      · rw [z]; exact Nat.le_add_right _ _
      · rw [z]; exact Nat.le_refl _
    exact I1.fpOk hle (I1.hok.fresh hle)
  rcases q with ⟨hq, q⟩ | ⟨hq, q⟩
  · obtain ⟨its, rv, p', hz⟩ := I1.list hq
    exact call_enumerate_list p'.isList fun h' he hit hsz hk => wpAny_pyIter_enum he ⟨s1.heap.objs.size + 1, [s1.heap.objs.size + 1, s1.heap.objs.size], _, _, H1, rfl, I1.kept (t' := s1.toks) hk, turn_enum a (s1.heap.objs.size + 1) s1.heap.objs.size, ⟨⟨.none, he⟩, hit, Nat.succ_ne_self _⟩, fr, q⟩
  · obtain ⟨its, rv, p', hz⟩ := I1.tuple hq
    exact enumT_call p' fun h' he hit hsz hk => wpAny_pyIter_enum he ⟨s1.heap.objs.size + 1, [s1.heap.objs.size + 1, s1.heap.objs.size], _, _, H1, rfl, I1.kept (t' := s1.toks) hk, turn_enumT a (s1.heap.objs.size + 1) s1.heap.objs.size, ⟨⟨.none, he⟩, hit, Nat.succ_ne_self _⟩, fr, q⟩
theorem feed_enumT {K : PySem.W.Frag} {B : Amb} {A Z : Addr → Prop} {H : Hp} {σ : L2.St} {xs : List V} {ds : List PyData} {a : Addr} (hz : zc md B A σ H Z) (ef : ∀ a, efs B a → A a) (h : TupAt K H (md.P B A σ) a xs) (q : Dvs K H A xs ds) : ∃ I, I H ∧ Feeds K A Z (IteT K a) (enumD ds) I := by
  have hl : ∀ {H}, Dvs K H (fun a => A a ∨ Z a) xs ds → (enumD ds).length = xs.length := fun q => by simp [enumD, zipD, rangeD, q.length]
  refine ⟨fun H => TupAt K H Z a xs ∧ Dvs K H (fun a => A a ∨ Z a) xs ds, ⟨tup_zc hz h, q.wide (hz.wide ef)⟩, fun H1 H2 ⟨i1, i2⟩ k t => ⟨tup_stay t i1, stays k t i2⟩, fun i H1 hi ⟨i1, i2⟩ => ?_, fun H1 ⟨i1, i2⟩ => ?_, fun i H1 x H2 A' hi tr ⟨i1, i2⟩ y => ?_⟩
  · rw [hl i2] at hi
    exact ⟨xs, xs[i], i1.sq, by simp [hi]⟩
  · rw [hl i2]
    exact ⟨xs, i1.sq, Nat.le_refl _⟩
  · rw [hl i2] at hi
    obtain ⟨T, x, rfl, hT, rfl, hx⟩ := y
    obtain ⟨d, e1, e2⟩ := i2.get' (hx xs i1.sq)
    obtain ⟨k, v⟩ := yld_pair (A := A') (fun a w => (tr a w).2) hT (.int (i : Nat)) (e2.anti fun a w => (tr a w).1)
    refine ⟨k, _, ?_, v⟩
    have hi' : i < ds.length := by rw [← i2.length]; exact hi
    rw [List.getElem?_eq_getElem hi'] at e1
    simp [enumD, zipD, rangeD, hi', Option.some.inj e1]
def enumX : PyData → Option (List PyData)
  | .list ds => some (enumD ds)
  | .tuple ds => some (enumD ds)
  | _ => none
def mEnumX (m : Rd PyData) : Rd (List PyData) := m.bind fun d => Rd.lift (enumX d)
theorem pis_enumX (hK : X.K = C.K) (hg : Gl X "enumerate") (hm : X.mg "enumerate" = none) (h : PM md X C e m) (hs : starEach [e] X.env = [(false, eval e X.env)] := by rfl) : PIs X C md (.Tuple elts kk tpos) (.Call (.Name "enumerate" p) [e] [] pos) (mEnumX m) := by
  obtain ⟨te, p1, q1⟩ := h.ex
  refine ⟨_, pi_enumX hg hm (pa_cons p1 pa_nil hs) hs, fun A E G σ H R r G' Rl hm p => ?_⟩
  show te σ H fun x H1 => ∃ a xs, [x] = [V.ref a] ∧ ((SqL X.K H1 a xs ∧ R (Ite X.K a) H1) ∨ (SqT X.K H1 a xs ∧ R (IteT X.K a) H1))
  refine goM q1 Rl hm (fun x hx => by subst hx; exact p) fun d G1 v H1 e1 R1 b hm1 => ?_
  obtain ⟨ds, hd, rfl, rfl⟩ := Rd.lift_cases hm1
  unfold enumX at hd
  rw [hK]
  split at hd
  · cases hd
    obtain ⟨a, xs, rfl, h1, h2, h3, h4⟩ := b.list R1.ef
    exact ⟨a, xs, rfl, .inl ⟨.inl (.inl h1), p _ H1 e1 R1.jr fun Z hz => feed_enum hz R1.ef h1 h4 h3⟩⟩
  · cases hd
    obtain ⟨a, xs, rfl, h1, h2, h3⟩ := b.tuple R1.ef
    exact ⟨a, xs, rfl, .inr ⟨h1.sq, p _ H1 e1 R1.jr fun Z hz => feed_enumT hz R1.ef h1 h3⟩⟩
  · cases hd
end
end Zd

set_option maxRecDepth 100000
set_option maxHeartbeats 4000000
namespace Zd
open PySem PySem.Spec L2
open PyProof.Rows hiding St

/-! ### runs over a list told by a function -/
section
variable {β : Type} {e : β → PyData} {f : Tg}
theorem lcRun_map {tt : Rd Bool} {te : Rd PyData} {E : Evn} {G : Rng} (p : β → Bool) (h : β → PyData) : ∀ {l : List β}, (∀ b ∈ l, ∃ E1, f (e b) E = some E1 ∧ tt E1 G = some (.ok (p b), G) ∧ (p b = true → te E1 G = some (.ok (h b), G))) → lcRun f tt te E (l.map e) G = some ((l.filter p).map h, G)
  | [], _ => rfl
  | b :: l, hf => by
    obtain ⟨E1, h1, h2, h3⟩ := hf b List.mem_cons_self
    have ih := lcRun_map p h (l := l) fun c hc => hf c (List.mem_cons_of_mem _ hc)
    rw [List.map_cons]
    cases hp : p b with
    | true =>
      rw [hp] at h2
      rw [List.filter_cons_of_pos hp]
      exact lcRun_true h1 h2 (h3 hp) ih
    | false =>
      rw [hp] at h2
      rw [List.filter_cons_of_neg (by rw [hp]; simp)]
      exact lcRun_false h1 h2 ih
/-- .. without a test -/
theorem lcRun_all {te : Rd PyData} {E : Evn} {G : Rng} (h : β → PyData) {l : List β} (hf : ∀ b ∈ l, ∃ E1, f (e b) E = some E1 ∧ te E1 G = some (.ok (h b), G)) : lcRun f mYes te E (l.map e) G = some (l.map h, G) := by
  have := lcRun_map (f := f) (e := e) (tt := mYes) (te := te) (E := E) (G := G) (fun _ => true) h (l := l) fun b hb => let ⟨E1, h1, h2⟩ := hf b hb; ⟨E1, h1, rfl, fun _ => h2⟩
  rwa [List.filter_eq_self.mpr (fun _ _ => rfl)] at this
theorem dcRun_map {tk tv : Rd PyData} {E : Evn} {G : Rng} (kf : β → GK) (vf : β → PyData) : ∀ {l acc : List β}, ((acc ++ l).map kf).Nodup → (∀ a ∈ acc ++ l, ∀ b ∈ acc ++ l, likeG (kf a) (kf b) = true) → (∀ b ∈ l, ∃ E1 y, f (e b) E = some E1 ∧ tk E1 G = some (.ok y, G) ∧ keyOf y = some (kf b) ∧ tv E1 G = some (.ok (vf b), G)) → dcRun f mYes tk tv E (l.map e) (kvL kf vf acc) G = some (kvL kf vf (acc ++ l), G)
  | [], acc, _, _, _ => by simp [dcRun]
  | b :: l, acc, nd, lk, hf => by
    obtain ⟨E1, y, h1, h3, h4, h5⟩ := hf b List.mem_cons_self
    have nb : kf b ∉ acc.map kf := by
      rw [List.map_append, List.nodup_append] at nd
      exact fun z => nd.2.2 _ z (kf b) (by simp) rfl
    have ih := dcRun_map kf vf (l := l) (acc := acc ++ [b]) (by simpa using nd) (fun a ha c hc => lk a (by simpa using ha) c (by simpa using hc)) fun c hc => hf c (List.mem_cons_of_mem _ hc)
    rw [List.map_cons]
    unfold dcRun
    rw [h1]
    simp only [Option.bind]
    rw [show mYes E1 G = some (.ok true, G) from rfl]
    simp only [if_true]
    rw [h3]
    simp only
    rw [h5]
    simp only
    rw [h4]
    simp only
    rw [if_pos (kvL_fit kf vf fun a ha => lk a (List.mem_append_left _ ha) b (by simp)), kvL_put kf vf nb, ih]
    simp
theorem dcRun_all {tk tv : Rd PyData} {E : Evn} {G : Rng} (kf : β → GK) (vf : β → PyData) {l : List β} (nd : (l.map kf).Nodup) (lk : ∀ a ∈ l, ∀ b ∈ l, likeG (kf a) (kf b) = true) (hf : ∀ b ∈ l, ∃ E1 y, f (e b) E = some E1 ∧ tk E1 G = some (.ok y, G) ∧ keyOf y = some (kf b) ∧ tv E1 G = some (.ok (vf b), G)) : dcRun f mYes tk tv E (l.map e) [] G = some (kvL kf vf l, G) := by
  have := dcRun_map (f := f) (e := e) (tk := tk) (tv := tv) (E := E) (G := G) kf vf (l := l) (acc := []) (by simpa using nd) (by simpa using lk) hf
  simpa [kvL] using this
theorem forRun_map {mb : Sd} (I : List β → Evn → Rng → Prop) : ∀ {l done : List β} {E : Evn} {G : Rng}, I done E G → (∀ pre b post, done ++ l = pre ++ b :: post → ∀ E G, I pre E G → ∃ E1 E2 G2, f (e b) E = some E1 ∧ mb E1 G = some (.nx E2, G2) ∧ I (pre ++ [b]) E2 G2) → ∃ E' G', forRun f mb (l.map e) E G = some (.nx E', G') ∧ I (done ++ l) E' G'
  | [], done, E, G, h0, _ => ⟨E, G, rfl, by simpa using h0⟩
  | b :: l, done, E, G, h0, st => by
    obtain ⟨E1, E2, G2, h1, h2, h3⟩ := st done b l rfl E G h0
    obtain ⟨E', G', h4, h5⟩ := forRun_map I (l := l) (done := done ++ [b]) (E := E2) (G := G2) h3 fun pre c post q => st pre c post (by simpa using q)
    refine ⟨E', G', ?_, by simpa using h5⟩
    rw [List.map_cons]
    unfold forRun
    rw [h1]
    simp only [Option.bind, h2]
    exact h4
end
theorem zipD_map {β : Type} (a b : β → PyData) (l : List β) : zipD (l.map a) (l.map b) = l.map fun x => .tuple [a x, b x] := by
  unfold zipD
  rw [List.zipWith_map]
  induction l with
  | nil => rfl
  | cons x l ih => rw [List.zipWith_cons_cons, List.map_cons, ih]
theorem mZip_ok {m1 m2 : Rd PyData} {E : Evn} {G G1 G2 : Rng} {ds es : List PyData} (h1 : m1 E G = some (.ok (.tuple ds), G1)) (h2 : m2 E G1 = some (.ok (.tuple es), G2)) : mZip m1 m2 E G = some (.ok (zipD ds es), G2) := by
  unfold mZip
  rw [Rd.bind_ok h1, Rd.bind_ok h2]
  rfl
theorem mZip_map {β : Type} {a b : β → PyData} {l : List β} {m1 m2 : Rd PyData} {E : Evn} {G G1 G2 : Rng} (h1 : m1 E G = some (.ok (.tuple (l.map a)), G1)) (h2 : m2 E G1 = some (.ok (.tuple (l.map b)), G2)) : mZip m1 m2 E G = some (.ok (l.map fun x => .tuple [a x, b x]), G2) := by
  rw [mZip_ok h1 h2, zipD_map]
theorem mItT {m : Rd PyData} {E : Evn} {G G1 : Rng} {ds : List PyData} (h : m E G = some (.ok (.tuple ds), G1)) : mIt m E G = some (.ok ds, G1) := mIt_ok h rfl
theorem mItL {m : Rd PyData} {E : Evn} {G G1 : Rng} {ds : List PyData} (h : m E G = some (.ok (.list ds), G1)) : mIt m E G = some (.ok ds, G1) := mIt_ok h rfl
theorem sDput_ok {i : Nat} {mk mv : Rd PyData} {E : Evn} {G G1 G2 : Rng} {ds : List (PyData × PyData)} {v y : PyData} {k : GK} (hE : E[i]? = some (some (.own (.dict ds)))) (h1 : mv E G = some (.ok v, G1)) (h2 : mk E G1 = some (.ok y, G2)) (hk : keyOf y = some k) (hz : ds.length < 100000) (hf : fitB ds k = true) : sDput i mk mv E G = some (.nx (E.set i (some (.own (.dict (putD ds k v))))), G2) := by
  unfold sDput onD
  rw [hE]
  simp only
  rw [rdS_ok h1, rdS_ok h2, hk]
  simp only [Option.bind]
  rw [if_pos ⟨hz, hf⟩]
theorem sPar_ok {i j : Nat} {m1 m2 : Rd EV} {E : Evn} {G G1 G2 : Rng} {a b : EV} (h1 : m1 E G = some (.ok a, G1)) (h2 : m2 E G1 = some (.ok b, G2)) : sPar i j m1 m2 E G = some (.nx ((E.set i (some a)).set j (some b)), G2) := by
  unfold sPar
  rw [rdS_ok h1, rdS_ok h2]
theorem catD_ok {xs ys : List PyData} (h : xs.length + ys.length ≤ 100000) : catD (.list xs) (.list ys) = some (.list (xs ++ ys)) := if_pos h
theorem mLkE_d {i : Nat} {m : Rd PyData} {E : Evn} {G G1 : Rng} {kvs : List (PyData × PyData)} {d : PyData} (hE : E[i]? = some (some (.d (.dict kvs)))) (h : m (lockE E i kvs) G = some (.ok d, G1)) : mLkE i m E G = some (.ok d, G1) := by
  unfold mLkE
  rw [hE]
  simp only
  rw [h]
theorem inD_ok {a b : PyData} {k : Bool} (h : inB a b = some k) : inD a b = some (.bool k) := by unfold inD; rw [h]; rfl
theorem ninD_ok {a b : PyData} {k : Bool} (h : inB a b = some k) : ninD a b = some (.bool (!k)) := by unfold ninD; rw [h]; rfl
theorem mergeSort_rise {l : List Int} (h : l.Pairwise (· < ·)) : (l.mergeSort fun a b => decide (a ≤ b)) = l := List.mergeSort_of_pairwise (h.imp fun q => by simp; omega)
theorem keysI_lotI (v : PyData) : ∀ l : List Int, keysI (kvL lotI.key (fun _ => v) l) = some l
  | [] => rfl
  | n :: l => by
    have ih := keysI_lotI v l
    show (keysI (kvL lotI.key (fun _ => v) l)).map (n :: ·) = _
    rw [ih]
    rfl
/-- what one lot of what is kept is: over dicts -/
theorem sortX_dc {v : PyData} {l : List Int} (h : l.Pairwise (· < ·)) (hz : l.length < 64) : sortX [lotI.dc v l] = some (.list (lotI.ens l)) := by
  show (keysI _).bind _ = _
  rw [keysI_lotI]
  simp only [Option.bind]
  rw [if_pos hz, mergeSort_rise h]
  rfl

/-! ### is True, is not True -/
def isBl (c : Bool) : PyData → Bool
  | .bool b => b == c
  | _ => false
def isB (a b : PyData) : Option PyData := match b with
  | .bool c => some (.bool (isBl c a))
  | _ => none
def isNB (a b : PyData) : Option PyData := match b with
  | .bool c => some (.bool (!isBl c a))
  | _ => none
section
variable {X : Cx} {C : Cn}
theorem Bv.blv {K : PySem.W.Frag} {B : Amb} {H : Hp} {A : Addr → Prop} {v : V} {d : PyData} (b : Bv K B H A v d) (c : Bool) : (v = .bl c ∧ isBl c d = true) ∨ (isBl c d = false ∧ ∀ u, RelV v u → plainIs u (.bool c) = true ∧ u ≠ .bool c) := by
  cases b with
  | d q =>
    cases q with
    | non => exact .inr ⟨rfl, fun u h => by cases (show u = Value.none from h); exact ⟨rfl, fun z => nomatch z⟩⟩
    | bl b =>
      by_cases e : b = c
      · subst e; exact .inl ⟨rfl, by simp [isBl]⟩
      · refine .inr ⟨by simp [isBl, e], fun u h => ?_⟩
        cases (show u = Value.bool b from h)
        exact ⟨rfl, fun z => e (Value.bool.inj z)⟩
    | int i => exact .inr ⟨rfl, fun u h => by obtain ⟨t, rfl⟩ := (show ∃ t, u = Value.int i t from h); exact ⟨rfl, fun z => nomatch z⟩⟩
    | str x => exact .inr ⟨rfl, fun u h => by obtain ⟨t, rfl⟩ := (show ∃ t, u = Value.str x t from h); exact ⟨rfl, fun z => nomatch z⟩⟩
    | lst e n z q => exact .inr ⟨rfl, fun u h => by cases (show u = Value.ref _ from h); exact ⟨rfl, fun z => nomatch z⟩⟩
    | tup e z q => exact .inr ⟨rfl, fun u h => by cases (show u = Value.ref _ from h); exact ⟨rfl, fun z => nomatch z⟩⟩
    | dct e n q => exact .inr ⟨rfl, fun u h => by cases (show u = Value.ref _ from h); exact ⟨rfl, fun z => nomatch z⟩⟩
  | own n q =>
    cases d with
    | list ds => exact .inr ⟨rfl, fun u h => by cases (show u = Value.ref _ from h); exact ⟨rfl, fun z => nomatch z⟩⟩
    | dict ds => exact .inr ⟨rfl, fun u h => by cases (show u = Value.ref _ from h); exact ⟨rfl, fun z => nomatch z⟩⟩
    | _ => exact q.elim
theorem o_isB : OpR X (compareOp .Is) (rZ2 C isB) := by
  intro pins s σ H x y v u Q I rx ry h
  obtain ⟨A, dx, dy, dz, trk, ef, bx, by', hg, k⟩ := h
  unfold isB at hg
  split at hg
  · rename_i c
    cases hg
    cases by'.bl
    cases (show u = Value.bool c from ry)
    rcases bx.blv c with ⟨rfl, e⟩ | ⟨e, f⟩
    · cases (show v = Value.bool c from rx)
      rw [e] at k
      exact wpAny_is_self rfl ⟨.bl true, H, I, rfl, fin k (.bl _)⟩
    · obtain ⟨f1, f2⟩ := f v rx
      rw [e] at k
      exact wpAny_is_other f1 f2 ⟨.bl false, H, I, rfl, fin k (.bl _)⟩
  · cases hg
theorem o_isNB : OpR X (compareOp .IsNot) (rZ2 C isNB) := by
  intro pins s σ H x y v u Q I rx ry h
  obtain ⟨A, dx, dy, dz, trk, ef, bx, by', hg, k⟩ := h
  unfold isNB at hg
  split at hg
  · rename_i c
    cases hg
    cases by'.bl
    cases (show u = Value.bool c from ry)
    rcases bx.blv c with ⟨rfl, e⟩ | ⟨e, f⟩
    · cases (show v = Value.bool c from rx)
      rw [e] at k
      exact wpAny_isNot_self rfl ⟨.bl false, H, I, rfl, fin k (.bl _)⟩
    · obtain ⟨f1, f2⟩ := f v rx
      rw [e] at k
      exact wpAny_isNot_other f1 f2 ⟨.bl true, H, I, rfl, fin k (.bl _)⟩
  · cases hg
end
end Zd

set_option maxRecDepth 100000
set_option maxHeartbeats 4000000
namespace Zd
open PySem PySem.Spec L2
open PyProof.Rows hiding St

/-! ### data that may be handed to _law_is, by its parts -/
structure Nc (k dp w : Nat) (d : PyData) : Prop where
  pl : Pl k d
  can : d.canLay0 = true
  dep : d.depth ≤ dp
  shw : d.showable = true
  ins : d.intsShort 13 = true
  wgt : d.weight ≤ w
theorem Nc.int {n : Int} (h : n.natAbs < 10 ^ 12) : Nc 1 0 41 (.int n) := ⟨.int, rfl, Nat.le_refl 0, by
  have := show_ints [n] (by simpa using h)
  simpa [PyData.showableAll] using this, by
  have := PyData.intsShortAll_ints [n] (by simpa using h)
  simpa [PyData.intsShortAll] using this, weight_int h⟩
theorem Nc.small {n : Int} (h : 0 ≤ n ∧ n ≤ 1000) : Nc 1 0 10 (.int n) := by
  have q := Nc.int (n := n) (by have : n.natAbs ≤ 1000 := by omega
                                have : (1000 : Nat) < 10 ^ 12 := by decide
                                omega)
  refine ⟨q.pl, q.can, q.dep, q.shw, q.ins, ?_⟩
  simp only [PyData.weight]
  split
  · omega
  · rename_i hn
    have h0 : n.natAbs ≠ 0 := by simpa using hn
    have p : n.natAbs < 2 ^ 10 := by have : n.natAbs ≤ 1000 := by omega
                                     have : (1000 : Nat) < 2 ^ 10 := by decide
                                     omega
    have : n.natAbs.log2 < 10 := (Nat.log2_lt h0).mpr p
    omega
theorem Nc.mono {k k' dp dp' w w' : Nat} {d : PyData} (h : Nc k dp w d) (hp : Pl k' d) (h2 : dp ≤ dp') (h3 : w ≤ w') : Nc k' dp' w' d := ⟨hp, h.can, Nat.le_trans h.dep h2, h.shw, h.ins, Nat.le_trans h.wgt h3⟩
theorem Pl.up : ∀ {j : Nat} {d : PyData}, Pl j d → Pl (j + 1) d
  | 0, _, h => by cases h
  | j + 1, _, h => by
    cases h with
    | non => exact .non
    | bool => exact .bool
    | int => exact .int
    | str => exact .str
    | list hz hp => exact .list hz fun d hd => (hp d hd).up
    | tup hz hp => exact .tup hz fun d hd => (hp d hd).up
theorem Pl.le {j k : Nat} {d : PyData} (h : Pl j d) (hk : j ≤ k) : Pl k d := by
  induction hk with
  | refl => exact h
  | step _ ih => exact ih.up
theorem Nc.le {k k' dp dp' w w' : Nat} {d : PyData} (h : Nc k dp w d) (h1 : k ≤ k') (h2 : dp ≤ dp') (h3 : w ≤ w') : Nc k' dp' w' d := h.mono (h.pl.le h1) h2 h3
theorem nc_all {k dp w : Nat} : ∀ {ds : List PyData}, (∀ d ∈ ds, Nc k dp w d) → PyData.canLayAll0 ds = true ∧ PyData.depthAll ds ≤ dp ∧ PyData.showableAll ds = true ∧ PyData.intsShortAll 13 ds = true ∧ PyData.weightAll ds ≤ (w + 1) * ds.length
  | [], _ => ⟨rfl, Nat.zero_le _, rfl, rfl, Nat.zero_le _⟩
  | d :: ds, h => by
    obtain ⟨h1, h2, h3, h4, h5⟩ := nc_all (ds := ds) fun e he => h e (List.mem_cons_of_mem _ he)
    have q := h d List.mem_cons_self
    refine ⟨by simp only [PyData.canLayAll0, q.can, h1, Bool.and_self], ?_, by simp only [PyData.showableAll, q.shw, h3, Bool.and_self], by simp only [PyData.intsShortAll, q.ins, h4, Bool.and_self], ?_⟩
    · simp only [PyData.depthAll]
      exact Nat.max_le.mpr ⟨q.dep, h2⟩
    · have := q.wgt
      simp only [PyData.weightAll, List.length_cons, Nat.mul_add, Nat.mul_one]
      omega
theorem Nc.tup {k dp w L : Nat} {ds : List PyData} (h : ∀ d ∈ ds, Nc k dp w d) (hl : ds.length ≤ L) (hz : L ≤ 100000) : Nc (k + 1) (dp + 1) ((w + 1) * L) (.tuple ds) := by
  obtain ⟨h1, h2, h3, h4, h5⟩ := nc_all h
  refine ⟨.tup (by omega) fun d hd => (h d hd).pl, by simp only [PyData.canLay0]; exact h1, ?_, by simp only [PyData.showable]; exact h3, by simp only [PyData.intsShort]; exact h4, ?_⟩
  · simp only [PyData.depth]; omega
  · simp only [PyData.weight]
    exact Nat.le_trans h5 (Nat.mul_le_mul_left _ hl)
theorem Nc.lst {k dp w L : Nat} {ds : List PyData} (h : ∀ d ∈ ds, Nc k dp w d) (hl : ds.length ≤ L) (hz : L ≤ 100000) : Nc (k + 1) (dp + 1) ((w + 1) * L) (.list ds) := by
  obtain ⟨h1, h2, h3, h4, h5⟩ := nc_all h
  refine ⟨.list (by omega) fun d hd => (h d hd).pl, by simp only [PyData.canLay0]; exact h1, ?_, by simp only [PyData.showable]; exact h3, by simp only [PyData.intsShort]; exact h4, ?_⟩
  · simp only [PyData.depth]; omega
  · simp only [PyData.weight]
    exact Nat.le_trans h5 (Nat.mul_le_mul_left _ hl)
theorem Nc.shp {k dp w : Nat} {d : PyData} (h : Nc k dp w d) (hd : dp ≤ 64) : SeqAt.shaped d = true := by
  unfold SeqAt.shaped
  rw [h.can, decide_eq_true (Nat.le_trans h.dep hd)]
  rfl
theorem Nc.isb {k dp w : Nat} {d : PyData} (h : Nc k dp w d) (hd : dp ≤ 64) (hw : w ≤ 66000) : Isb k d := by
  have s := PyData.shown_le 13 (by decide) d (PyData.leavesShort_of_canLay0 13 d h.can h.ins)
  have := h.wgt
  exact ⟨h.pl, h.shp hd, h.shw, by omega⟩

/-! ### a, b = a list -/
def tgL (n : Nat) (f : Tgs) : Tg := fun d E => match d with
  | .list ds => if ds.length = n then f ds E else none
  | _ => none
theorem pgd_lst {X : Cx} {C : Cn} {pos : Pos} {es : List Expr} {kk : Nat} {f : Tgs} {ss : List Nat} {n : Nat} (hK : X.K = C.K) (hc : X.calm = true) (h : PGsd X C es f ss) (hn : (assignEach es X.env).length = n := by rfl) (hst : (assignEach es X.env).findIdx? (·.1) = none := by rfl) : PGd X C (.Tuple es kk pos) (tgL n f) ss := by
  obtain ⟨ok1, g1, p1, q1⟩ := h
  refine ⟨fun d E E' h => ?_, _, pg_lst hc p1 hn hst, fun A v d E E' G σ H Q R hv h k => ?_⟩
  · unfold tgL at h
    split at h
    · split at h
      · exact ok1 _ _ _ h
      · cases h
    · cases h
  · unfold tgL at h
    split at h
    · split at h
      · rename_i hz
        obtain ⟨a, xs, rfl, h1, h2, h3⟩ := (Bv.d (B := C.B) hv).list
        exact ⟨a, xs, rfl, .inl (.inl h1), by rw [h3.length]; exact hz, q1 A xs _ E E' G σ H Q R h3 h k⟩
      · cases h
    · cases h
end Zd

set_option maxRecDepth 100000
set_option maxHeartbeats 4000000
namespace Zd
open PySem PySem.Spec L2 HT
open PyProof.Rows hiding St
section
variable {prog : Program} {w : World} {A : Around} {E : Value → Shared → Prop} {s : Shared}
/-! ### t[::-1] -/
theorem rev_adjust (n : Nat) : Builtin.Slice.sliceAdjust none none (-1) (n : Int) = ((n : Int) - 1, -1) := rfl
theorem rev_places (n : Nat) : Builtin.Slice.slicePlaces ((n : Int) - 1) (-1) (-1) = n := by
  unfold Builtin.Slice.slicePlaces
  rw [if_neg (by omega)]
  split
  · rw [show (-(-1 : Int)) = 1 from rfl, Int.ediv_one]
    omega
  · omega
theorem fm_map {α β : Type} {f : α → Option β} {g : α → β} : ∀ {l : List α}, (∀ k ∈ l, f k = some (g k)) → l.filterMap f = l.map g
  | [], _ => rfl
  | a :: l, h => by rw [List.filterMap_cons_some (h a List.mem_cons_self), List.map_cons, fm_map fun k hk => h k (List.mem_cons_of_mem _ hk)]
theorem rev_pick (xs : Array Value) : ((List.range xs.size).filterMap fun (k : Nat) => xs[((xs.size : Int) - 1 + (k : Int) * (-1)).toNat]?).toArray = xs.toList.reverse.toArray := by
  congr 1
  apply List.ext_getElem?
  intro j
  have e : ((List.range xs.size).filterMap fun (k : Nat) => xs[((xs.size : Int) - 1 + (k : Int) * (-1)).toNat]?) = (List.range xs.size).map fun k => (xs.toList.reverse)[k]?.getD .none := by
    apply fm_map
    intro k hk
    have hk' := List.mem_range.mp hk
    have e1 : ((xs.size : Int) - 1 + (k : Int) * (-1)).toNat = xs.size - 1 - k := by omega
    rw [e1, List.getElem?_reverse (by simpa using hk'), Array.length_toList, Array.getElem?_toList]
    have : xs.size - 1 - k < xs.size := by omega
    rw [Array.getElem?_eq_getElem this, Option.getD_some]
  rw [e, List.getElem?_map]
  by_cases h : j < xs.size
  · rw [List.getElem?_range h]
    have : j < xs.toList.reverse.length := by simpa using h
    rw [List.getElem?_eq_getElem this, Option.map_some, List.getElem?_eq_getElem this, Option.getD_some]
  · rw [List.getElem?_eq_none (by simpa using h), List.getElem?_eq_none (by simpa using h)]
    rfl
theorem getItem_tuple_rev {t sl : Addr} {items : Array Value} {vl vu vs : Value} {Q : Value → Shared → Prop} (ht : IsTup s.heap t items) (hs : s.heap.IsSliceOf sl vl vu vs) (pl : IsPart vl none) (pu : IsPart vu none) (ps : IsPart vs (some (-1)))
    (h : Q (.ref s.heap.objs.size) { s with heap := s.heap.push { cls := .type "tuple", data := .seq items.toList.reverse.toArray } })
    (hsz : items.size ≤ sizeLine) : wpAny (model prog w) A (getItem (.ref t) (.ref sl)) Q E s := by
  have htake : sizeOk (.seq items.toList.reverse.toArray) := by
    show items.toList.reverse.toArray.size ≤ sizeLine
    rw [List.size_toArray, List.length_reverse, Array.length_toList]
    exact hsz
  obtain ⟨os, hos, hcs, hds⟩ := id hs
  have hTs : s.TypeIs (.ref sl) "slice" := ⟨os, hos, hcs⟩
  unfold getItem
  try with_reducible refine wpAny_holding ?_
  first | refine wpAny_bind (wpAny_pure ?_) | skip
  refine wpAny_bind (wpAny_sequenceKey ht.typeIs (by decide) ?_)
  refine wpAny_bind (wpAny_callSpecial?_slot (name := Str.ofString "__getitem__") ht.typeIs PyProof.Rows.slot_tuple_getitem
    (wpAny_call_entry PyProof.Rows.slot_tuple_getitem ht.typeIs entry_tuple_getitem ?_ (args_tuple_getitem _ _)))
  show wpAny _ _ (Builtin.Tuple.tupleItemsOf (.ref t) >>= _) _ _ s
  refine wpAny_bind (tupleItemsOf_ ht ?_)
  refine wpAny_bind (wpAny_typeOf hTs ?_)
  rw [if_pos (by decide)]
  refine wpAny_bind ?_
  unfold Builtin.Slice.sliceApplied Builtin.Slice.sliceFields
  refine wpAny_bind (wpAny_bind (wpAny_field hos hds (x := vl) rfl (wpAny_bind (wpAny_field hos hds (x := vu) rfl (wpAny_bind (wpAny_field hos hds (x := vs) rfl (wpAny_pure ?_)))))))
  refine wpAny_bind (slicePart_ ps ?_)
  show wpAny _ _ (if ((-1 : Int) == 0) = true then _ else _) _ _ s
  rw [if_neg (by decide)]
  refine wpAny_bind (slicePart_ pl (wpAny_bind (slicePart_ pu (wpAny_bind (wpAny_pure ?_)))))
  show wpAny _ _ (pure (((items.size : Nat) : Int) - 1, (-1 : Int), Builtin.Slice.slicePlaces (((items.size : Nat) : Int) - 1) (-1) (-1))) _ _ s
  rw [rev_places]
  refine wpAny_pure ?_
  have hno : ¬ ((((items.size : Nat) : Int) - 1 == 0 && (-1 : Int) == 1 && items.size == items.size) = true) := by
    intro q
    rw [Bool.and_eq_true, Bool.and_eq_true] at q
    exact absurd (eq_of_beq q.1.2) (by decide)
  show wpAny _ _ (if (((items.size : Nat) : Int) - 1 == 0 && (-1 : Int) == 1 && items.size == items.size) = true then _ else _) _ _ s
  rw [if_neg hno, rev_pick]
  first
    | exact wpAny_bind (m := Builtin.Tuple.tupleExact _) (wpAny_newObj_type (wpAny_pure ⟨_, rfl, wpAny_pure h⟩) htake)
    | exact wpAny_bind (m := Builtin.Tuple.tupleExact _) (wpAny_newObj_type (wpAny_bind (wpAny_pure (wpAny_pure ⟨_, rfl, wpAny_pure h⟩))) htake)
    | exact wpAny_bind (wpAny_bind (m := Builtin.Tuple.tupleExact _) (wpAny_newObj_type (wpAny_pure (wpAny_pure ⟨_, rfl, wpAny_pure h⟩)) htake))
    | exact wpAny_bind (wpAny_bind (m := Builtin.Tuple.tupleExact _) (wpAny_newObj_type (wpAny_pure ⟨_, rfl, wpAny_pure h⟩) htake))
end
section
variable {X : Cx} {C : Cn} {e : Expr} {m : Rd PyData} {pos : Pos}
def tRevX (K : PySem.W.Frag) (te : TE) : TE := fun σ H Q => te σ H fun x H1 => (∃ a xs, x = .ref a ∧ SqL K H1 a xs ∧ ∀ p, H1 p = none → Q (.ref p) (upd H1 p (.lst xs.reverse))) ∨
  (∃ a xs, x = .ref a ∧ SqT K H1 a xs ∧ ∀ p, H1 p = none → Q (.ref p) (upd H1 p (.tup xs.reverse)))
theorem pe_revX {te : TE} {k : Nat} {p1 p2 p3 : Pos} (he : PE X e te) : PE X (.Subscript e (.Slice none none (some (.UnaryOp .USub (.Constant (.int 1) k p1) p2)) p3) pos) (tRevX X.K te) := by
  refine ⟨fun pins s σ H Q I h => ?_⟩
  refine Subscript_ (thn (he.run pins s σ H _ I h) fun v s1 ⟨x, H1, I1, r1, q1⟩ => ?_)
  have hst : PO X (some (.UnaryOp .USub (.Constant (.int 1) k p1) p2)) (tPart (tUn (rU fun i => .int (-i)) (tC (.int 1)))) := po_some (pe_un un_neg pe_int)
  have main : ∀ (a : Addr), x = .ref a → (∀ (H4 : Hp) s4 vl vu vs, H4 = H1 → Inv X pins σ H4 s4 → IsPart vl none → IsPart vu none → IsPart vs (some (-1)) →
      wpAny (model X.prog X.w) X.A (subscriptTail e (.Slice none none (some (.UnaryOp .USub (.Constant (.int 1) k p1) p2)) p3) (.ref a) (.ref s4.heap.objs.size)) (EP X pins σ Q) X.xe { s4 with heap := s4.heap.push { cls := .type "slice", data := .fields #[vl, vu, vs] } }) →
      wpAny (model X.prog X.w) X.A (eval (.Slice none none (some (.UnaryOp .USub (.Constant (.int 1) k p1) p2)) p3) X.env) (fun i s2 => wpAny (model X.prog X.w) X.A (subscriptTail e (.Slice none none (some (.UnaryOp .USub (.Constant (.int 1) k p1) p2)) p3) v i) (EP X pins σ Q) X.xe s2) X.xe s1 := fun a ex go => by
    subst ex
    cases r1
    refine wpAny_Slice (thn (po_none.run pins s1 σ H1 (fun o H2 => o = none ∧ H2 = H1) I1 ⟨rfl, rfl⟩) fun vl s2 ⟨l, H2, I2, pl, el, e2⟩ => ?_)
    subst el e2
    refine thn (po_none.run pins s2 σ H2 (fun o H3 => o = none ∧ H3 = H2) I2 ⟨rfl, rfl⟩) fun vu s3 ⟨u, H3, I3, pu, eu, e3⟩ => ?_
    subst eu e3
    refine thn (hst.run pins s3 σ H3 (fun o H4 => o = some (-1) ∧ H4 = H3) I3 ⟨1, rfl, -1, rfl, rfl, rfl⟩) fun vs s4 ⟨o, H4, I4, ps, eo, e4⟩ => ?_
    subst eo e4
    exact go H4 s4 vl vu vs rfl I4 pl pu ps
  rcases q1 with ⟨a, xs, ex, hx, q⟩ | ⟨a, xs, ex, hx, q⟩
  · refine main a ex fun H4 s4 vl vu vs e4 I4 pl pu ps => ?_
    subst e4
    have I5 : Inv X pins σ H4 { s4 with heap := s4.heap.push { cls := .type "slice", data := .fields #[vl, vu, vs] } } := I4.kept (t' := s4.toks) fun b ob q => Heap.get?_push_of_some _ q
    obtain ⟨its, r, ht, hz⟩ := I5.list hx
    have hlen := r.length
    refine tail_any (ops := [.ref a, .ref s4.heap.objs.size]) ht.isList.typeIs (PySem.slot_list_getitem.lookup) ?_ (by with_unfolding_all rfl)
    refine wpAny_getItem_list_slice ht.isList (Heap.IsSliceOf.new _ vl vu vs) pl pu ps (by decide) ?_ (by rw [List.size_toArray]; omega)
    rw [PySem.W.krv_pick]
    refine ⟨.ref _, _, I5.laid (t' := s4.toks) (o := .lst xs.reverse) (fun b ob q => Heap.get?_push_of_some _ q) (Nat.le_refl _) ?_, rfl, q _ (I5.hok.fresh (Nat.le_refl _))⟩
    exact ⟨by rw [List.length_reverse]; exact hz, _, 0, r.reverse, Heap.get?_push_size _ rfl⟩
  · refine main a ex fun H4 s4 vl vu vs e4 I4 pl pu ps => ?_
    subst e4
    have I5 : Inv X pins σ H4 { s4 with heap := s4.heap.push { cls := .type "slice", data := .fields #[vl, vu, vs] } } := I4.kept (t' := s4.toks) fun b ob q => Heap.get?_push_of_some _ q
    obtain ⟨its, r, ht, hz⟩ := I5.tuple hx
    have hlen := r.length
    refine tail_any (ops := [.ref a, .ref s4.heap.objs.size]) ht.typeIs (PyProof.Rows.slot_tuple_getitem.lookup) ?_ (by with_unfolding_all rfl)
    refine getItem_tuple_rev ht (Heap.IsSliceOf.new _ vl vu vs) pl pu ps ?_ (by rw [List.size_toArray]; omega)
    refine ⟨.ref _, _, I5.laid (t' := s4.toks) (o := .tup xs.reverse) (fun b ob q => Heap.get?_push_of_some _ q) (Nat.le_refl _) ?_, rfl, q _ (I5.hok.fresh (Nat.le_refl _))⟩
    exact ⟨by rw [List.length_reverse]; exact hz, _, r.reverse, IsTup.new _ _⟩
def revD : PyData → Option PyData
  | .list ds => some (.list ds.reverse)
  | .tuple ds => some (.tuple ds.reverse)
  | _ => none
theorem Dvs.rev {K : PySem.W.Frag} {H : Hp} {A : Addr → Prop} : ∀ {xs : List V} {ds : List PyData}, Dvs K H A xs ds → Dvs K H A xs.reverse ds.reverse
  | _, _, .nil => .nil
  | _, _, .cons a q => by rw [List.reverse_cons, List.reverse_cons]; exact (Dvs.rev q).snoc a
theorem pd_rev {k : Nat} {p1 p2 p3 : Pos} (hK : X.K = C.K) (h : PB X C e m) : PD X C (.Subscript e (.Slice none none (some (.UnaryOp .USub (.Constant (.int 1) k p1) p2)) p3) pos) (mUn revD m) := by
  obtain ⟨te, p1, q1⟩ := h.ex
  refine ⟨_, pe_revX p1, fun A E G σ H Q r G' R hm p => ?_⟩
  unfold tRevX
  refine goB q1 R hm p.err fun d G1 v H1 e1 R1 b hm1 => ?_
  obtain ⟨dz, hz, rfl, rfl⟩ := Rd.lift_cases hm1
  unfold revD at hz
  split at hz
  · cases hz
    obtain ⟨a, xs, rfl, h1, h2, h3⟩ := b.list
    refine .inl ⟨a, xs, rfl, .inl (.inl h1), fun q n => p _ _ (e1.trans (Kept.new n).ext) ((Kept.new n).jr R1.jr) (.lst upd_same (fun z => R1.trk q z n) (by rw [List.length_reverse]; exact h2) (Dvs.rev (h3.kept (Kept.new n))))⟩
  · cases hz
    obtain ⟨a, xs, rfl, h1, h2, h3⟩ := b.tuple
    exact .inr ⟨a, xs, rfl, by rw [hK]; exact h1, fun q n => p _ _ (e1.trans (Kept.new n).ext) ((Kept.new n).jr R1.jr) (.tup upd_same (by rw [List.length_reverse]; exact h2) (Dvs.rev (h3.kept (Kept.new n))))⟩
  · cases hz
end
end Zd

set_option maxRecDepth 100000
set_option maxHeartbeats 4000000
namespace Zd
open PySem PySem.Spec L2 HT
open PyProof.Rows hiding St
/-! ### t * 1 -/
theorem tuple_mul1 (l : Addr) (items : Array Value) (n : Nat) (dd : Option Addr) (sl : Array (Option Value)) (u : Tok) (c1 : (items.isEmpty || (1 : Int) == 1) = true) :
    Meets (Builtin.«tuple.__mul__» ⟨[.ref l, .int 1 u], []⟩) (fun _ R s => s.heap.get? l = some { cls := .type "tuple", dict := dd, data := .seq items n, slots := sl } ∧ R (.ok (.ret (Value.ref l))) s) :=
  .of_wp fun prog w A R s h => by
    obtain ⟨hp, g, d, tk, os⟩ := s
    obtain ⟨hl, h⟩ := h
    have f1 := AutoSeq1.idx_int
    wp_walk using wpAny_loadPart' hl
    repeat (first
      | (refine wpAny_ite_true (decide_eq_true c1) ?_; wp_walk using wpAny_loadPart' hl)
      | (refine wpAny_ite_true c1 ?_; wp_walk using wpAny_loadPart' hl))
    exact ⟨_, rfl, h⟩
section
variable {X : Cx} {C : Cn}
def mulXD (a b : PyData) : Option PyData := match a, b with
  | .tuple ds, .int k => if ds ≠ [] ∧ 1 ≤ k ∧ k ≤ 1000 ∧ ds.length ≤ 1000 then some (.tuple (List.replicate k.toNat ds).flatten) else none
  | _, _ => none
def rRep1 (K : PySem.W.Frag) : R2 := fun x y H Q => ∃ l xs, x = .ref l ∧ y = .int 1 ∧ SqT K H l xs ∧ Q (.ref l) H
theorem op_rep1 : OpR X (binaryOp .Mult) (rRep1 X.K) := by
  intro pins s σ H x y v u Q I rx ry h
  obtain ⟨l, xs, rfl, rfl, hT, q⟩ := h
  cases rx
  obtain ⟨t, rfl⟩ := ry
  obtain ⟨its, r, ⟨⟨cls, dd, data, sl⟩, ho, hc, n, hd⟩, hs⟩ := I.tuple hT
  simp only at hc hd
  subst hc hd
  have c1 : (its.toArray.isEmpty || (1 : Int) == 1) = true := by simp
  refine wpAny_binaryOp_repeat_ref (T := "tuple") (U := "int") (by decide) ⟨_, ho, rfl⟩ (fun s' => typeIs_int s' 1 t) noFill_tuple_mul F.fills_int_mul F.slot_int_rmul repeat_tuple F.slot_int_index.lookup
    (call_meets F.slot_int_rmul (typeIs_int s 1 t) F.entry_int_rmul (F.args_int_rmul_2 _ _) (int_rmul_tuple 1 t l its.toArray n dd sl)
      ⟨ho, rfl, ⟨_, ho, rfl⟩, call_meets F.slot_tuple_mul ⟨_, ho, rfl⟩ F.entry_tuple_mul (F.args_tuple_mul_2 _ _) (tuple_mul1 l its.toArray n dd sl t c1) ⟨ho, ?_⟩⟩)
  exact ⟨.ref l, H, I, rfl, q⟩
theorem Dvs.rep {K : PySem.W.Frag} {H : Hp} {A : Addr → Prop} {xs : List V} {ds : List PyData} (h : Dvs K H A xs ds) : ∀ n : Nat, Dvs K H A (List.replicate n xs).flatten (List.replicate n ds).flatten
  | 0 => .nil
  | n + 1 => by rw [List.replicate_succ, List.replicate_succ, List.flatten_cons, List.flatten_cons]; exact h.append (Dvs.rep h n)
theorem o_mulX (hK : X.K = C.K) : OpR X (binaryOp .Mult) (rZ2 C mulXD) := by
  intro pins s σ H x y v u Q I rx ry h
  obtain ⟨A, dx, dy, dz, trk, ef, bx, by', hg, k⟩ := h
  unfold mulXD at hg
  split at hg
  · split at hg
    · rename_i ds n hc
      cases hg
      cases by'.int
      obtain ⟨a, xs, rfl, h1, h2, h3⟩ := bx.tuple
      by_cases e : n = 1
      · subst e
        refine op_rep1 pins s σ H _ _ v u Q I rx ry ⟨a, xs, rfl, rfl, by rw [hK]; exact h1, fin k ?_⟩
        have e2 : (List.replicate (1 : Int).toNat ds).flatten = ds := by show (List.replicate 1 ds).flatten = ds; simp
        rw [e2]
        cases bx with
        | d q => exact q
        | own n q => exact q.elim
      · have hl := h3.length
        refine op_repT pins s σ H _ _ v u Q I rx ry ⟨a, n, xs, rfl, rfl, by rw [hK]; exact h1, fun z => hc.1 (by
          subst z; exact List.eq_nil_of_length_eq_zero hl.symm), by omega, hc.2.2.1, by omega, fun p hp => k _ _ (Kept.new hp) (.tup upd_same ?_ ((h3.kept (Kept.new hp)).rep _))⟩
        have a1 : n.toNat * xs.length ≤ 1000 * 1000 := Nat.mul_le_mul (by omega) (by omega)
        rw [PyProof.Rows.lm_len_rep_flat, sizeLine_eq]
        omega
    · cases hg
  · cases hg
/-! ### x.upper() -/
variable {e : Expr} {m : Rd PyData} {pos apos : Pos}
def upD : PyData → Option PyData
  | .str z => if z.length ≤ 1000000 then some (.str (Txt.upper z)) else none
  | _ => none
theorem pd_up (h : PB X C e m) (hbase : attributeBase e (Str.ofString "upper") X.env (eval e X.env) = eval e X.env := by rfl) (hline : (apos.endLine == pos.line) = true := by rfl) :
    PD X C (.Call (.Attribute e (Str.ofString "upper") apos) [] [] pos) (mUn upD m) := by
  obtain ⟨te, p1, q1⟩ := h.ex
  refine ⟨_, pe_upper p1 hbase hline, fun A E G σ H Q r G' R hm p => ?_⟩
  unfold tM0
  refine goB q1 R hm p.err fun d G1 v H1 e1 R1 b hm1 => ?_
  obtain ⟨dz, hz, rfl, rfl⟩ := Rd.lift_cases hm1
  unfold upD at hz
  split at hz
  · split at hz
    · rename_i hl
      cases hz
      cases b.str
      exact ⟨⟨_, rfl⟩, _, rfl, rfl, by omega, p _ H1 e1 R1.jr (.str _)⟩
    · cases hz
  · cases hz
/-! ### constants of a module -/
theorem pd_cI {x : Str} {n : Int} (hg : Gl X x) (hm : ∃ u, X.mg x = some u ∧ RelV (.int n) u) (hd : (x == ("__debug__" : Str)) = false := by decide) : PD X C (.Name x pos) (Rd.ok (.int n)) := by
  obtain ⟨u, h1, h2⟩ := hm
  exact pd_glob hg h1 h2 (fun _ _ => .int n) hd
theorem pd_cS {x : Str} {z : Str} (hg : Gl X x) (hm : ∃ u, X.mg x = some u ∧ RelV (.str z) u) (hd : (x == ("__debug__" : Str)) = false := by decide) : PD X C (.Name x pos) (Rd.ok (.str z)) := by
  obtain ⟨u, h1, h2⟩ := hm
  exact pd_glob hg h1 h2 (fun _ _ => .str z) hd
/-- a written tuple of texts -/
def KTs (K : PySem.W.Frag) (mg : Str → Option Value) (x : Str) (zs : List Str) : Prop := ∃ (kp : Addr) (o : Obj) (its : Array Value) (n : Nat), mg x = some (.ref kp) ∧ K.lookup kp = some o ∧ o.cls = .type "tuple" ∧ o.data = .seq its n ∧ its.size ≤ sizeLine ∧ Vals (zs.map V.str) its.toList
def strsB : List Str → List Value → Bool
  | [], [] => true
  | z :: zs, .str y _ :: us => z == y && strsB zs us
  | _, _ => false
theorem strsB_vals : ∀ {zs : List Str} {us : List Value}, strsB zs us = true → Vals (zs.map V.str) us
  | [], [], _ => .nil
  | z :: zs, .str y t :: us, h => by
    unfold strsB at h
    rw [Bool.and_eq_true] at h
    have e : z = y := by simpa using h.1
    subst e
    exact .cons ⟨t, rfl⟩ (strsB_vals h.2)
theorem kts_of {K : PySem.W.Frag} {mg : Str → Option Value} {x : Str} {zs : List Str} {kp : Addr} {od : Option Addr} {its : Array Value} {n : Nat} {sl : Array (Option Value)} (hm : mg x = some (.ref kp))
    (hl : K.lookup kp = some ⟨.type "tuple", od, .seq its n, sl⟩) (hz : zs.length ≤ 1000) (h : strsB zs its.toList = true) : KTs K mg x zs := by
  have v := strsB_vals h
  refine ⟨kp, _, its, n, hm, hl, rfl, rfl, ?_, v⟩
  have h9 : its.size = zs.length := by
    have := v.length
    simpa using this.symm
  rw [h9, sizeLine_eq]
  omega
def inTs (zs : List Str) : PyData → Option PyData
  | .str z => if SeqAt.shaped (.str z) then some (.bool (zs.any fun y => y == z)) else none
  | _ => none
theorem dp_strs {K : PySem.W.Frag} {H : Hp} : ∀ zs : List Str, DpAll K H (zs.map V.str) (zs.map PyData.str)
  | [] => .nil
  | z :: zs => .cons (.str z) (dp_strs zs)
def rInTs (C : Cn) (zs : List Str) : R2 := fun x y H Q => ∃ z kp, x = .str z ∧ SeqAt.shaped (.str z) = true ∧ y = .ref kp ∧ SqT C.K H kp (zs.map V.str) ∧ Q (.bl (zs.any fun y => y == z)) H
theorem o_inTs (hK : X.K = C.K) (hu : X.A.units + 65 < cLine) (zs : List Str) (hc : SeqAt.shaped (.tuple (zs.map PyData.str)) = true) : OpR X (compareOp .In) (rInTs C zs) := by
  intro pins s σ H x y v u Q I rx ry h
  obtain ⟨z, kp, rfl, s1, rfl, hq, q⟩ := h
  obtain ⟨as, r1⟩ := Dp.reads I _ _ _ (.str z) rx
  obtain ⟨bs, r2⟩ := Dp.reads I (.tuple (zs.map PyData.str)) _ _ (.tup (by rw [hK]; exact hq) (dp_strs zs)) ry
  refine SeqAt.in_tuple_reads r2 r1 (shaped_lay hc) (shaped_lay s1) (room_in_shaped s1 hu) ⟨.bl _, H, I, rfl, ?_⟩
  have e : ((zs.map PyData.str).any fun y => PyData.eqv y (.str z)) = zs.any fun y => y == z := by
    rw [List.any_map]
    rfl
  rw [e]
  exact q
theorem inTs_core {te : TE} {zs : List Str} {kp : Addr} {o : Obj} {its : Array Value} {n : Nat} (h2 : C.K.lookup kp = some o) (h3 : o.cls = .type "tuple") (h4 : o.data = .seq its n) (h5 : its.size ≤ sizeLine) (h6 : Vals (zs.map V.str) its.toList)
    (q1 : ∀ A E G σ H Q r G', Rel C.K C.B A E G σ H → m E G = some (r, G') → PostB C A H r G' Q → te σ H Q) : ∀ A E G σ H Q r G', Rel C.K C.B A E G σ H → (mUn (inTs zs) m) E G = some (r, G') → PostD C A H r G' Q → te σ H fun v H1 => rInTs C zs v (.ref kp) H1 Q := by
  intro A E G σ H Q r G' R hm p
  refine goB q1 R hm p.err fun d G1 v H1 e1 R1 b hm1 => ?_
  obtain ⟨dz, hz, rfl, rfl⟩ := Rd.lift_cases hm1
  unfold inTs at hz
  split at hz
  · split at hz
    case isFalse => cases hz
    rename_i s1
    cases hz
    cases b.str
    exact ⟨_, kp, rfl, s1, rfl, .inr ⟨o, its, n, h2, h3, h4, h5, h6⟩, p _ H1 e1 R1.jr (.bl _)⟩
  · cases hz
theorem pd_inTs {x : Str} {np : Pos} {zs : List Str} (hK : X.K = C.K) (hu : X.A.units + 65 < cLine) (hc : SeqAt.shaped (.tuple (zs.map PyData.str)) = true) (h : PB X C e m) (hg : Gl X x) (hm : KTs X.K X.mg x zs) (hd : (x == ("__debug__" : Str)) = false := by decide)
    (hbm : behindInMarks CmpOp.In (.Name x np) = false := by first | exact nomark _ | with_unfolding_all rfl) : PD X C (.Compare e [.In] [.Name x np] pos) (mUn (inTs zs) m) := by
  obtain ⟨te, p1, q1⟩ := h.ex
  obtain ⟨kp, o, its, n, h1, h2, h3, h4, h5, h6⟩ := hm
  exact ⟨_, pe_cmpR (o_inTs hK hu zs hc) p1 (pe_glob (v := .ref kp) hg h1 rfl hd) hbm, inTs_core (by rw [← hK]; exact h2) h3 h4 h5 h6 q1⟩
theorem pt_inTs {x : Str} {np : Pos} {zs : List Str} (hK : X.K = C.K) (hu : X.A.units + 65 < cLine) (hc : SeqAt.shaped (.tuple (zs.map PyData.str)) = true) (h : PB X C e m) (hg : Gl X x) (hm : KTs X.K X.mg x zs) (hd : (x == ("__debug__" : Str)) = false := by decide)
    (hbm : behindInMarks CmpOp.In (.Name x np) = false := by first | exact nomark _ | with_unfolding_all rfl) : PTs' X C (.Compare e [.In] [.Name x np] pos) (mT (mUn (inTs zs) m)) := by
  obtain ⟨te, p1, q1⟩ := h.ex
  obtain ⟨kp, o, its, n, h1, h2, h3, h4, h5, h6⟩ := hm
  exact ⟨_, pt_cmpR (o_inTs hK hu zs hc) p1 (pe_glob (v := .ref kp) hg h1 rfl hd) hbm, test_core (inTs_core (by rw [← hK]; exact h2) h3 h4 h5 h6 q1)⟩
end
/-! ### found.append(left.pop(e)) -/
def sAppPop (i j : Nat) (m : Rd PyData) : Sd := onL i fun _ => onL j fun ds => rdS m fun z E G => match z with
  | .int k => if -(2 ^ 63) ≤ k ∧ k < 2 ^ 63 then (seqIndex? k ds.length).bind fun n => (ds[n]?).bind fun d =>
      onL i (fun fs E1 G1 => if fs.length < 100000 then some (.nx (E1.set i (some (.own (.list (fs ++ [d]))))), G1) else none) (E.set j (some (.own (.list (ds.eraseIdx n))))) G else none
  | _ => none
section
variable {X : Cx} {C : Cn} {e : Expr} {m : Rd PyData} {x y : Str} {np ap cp sp np2 ap2 cp2 : Pos}
theorem psd_appPop (i j : Nat) (h : PB X C e m) (hN : X.N[i]? = some x := by rfl) (hN2 : X.N[j]? = some y := by rfl) (hv : Vis X.env.scope x := by first | exact Or.inl rfl | exact Or.inr (Or.inl rfl) | exact Or.inr (Or.inr rfl)) (hv2 : Vis X.env.scope y := by first | exact Or.inl rfl | exact Or.inr (Or.inl rfl) | exact Or.inr (Or.inr rfl))
    (hd : (x == ("__debug__" : Str)) = false := by decide) (hcd : (x == ("__classdict__" : Str)) = false := by decide) (hd2 : (y == ("__debug__" : Str)) = false := by decide) (hcd2 : (y == ("__classdict__" : Str)) = false := by decide)
    (hline2 : (ap2.endLine == cp2.line) = true := by rfl) (hs2 : starEach [e] X.env = (false, eval e X.env) :: starEach [] X.env := by rfl) (hb2 : attributeBase (.Name y np2) (Str.ofString "pop") X.env (eval (.Name y np2) X.env) = eval (.Name y np2) X.env := by rfl)
    (hf2 : ((backTo cp2 (starEach [e] X.env)).all (fun x => !x.1) && (backToKw cp2 (keywordEach [] X.env)).all (fun x => x.1.isSome) && decide ([e].length + ([] : List Keyword).length + (if ([] : List Keyword).isEmpty then 0 else 1) < 30)) = true := by rfl)
    (hpl2 : (backTo cp2 (starEach [] X.env)).any (·.1) = false := by rfl)
    (hline : (ap.endLine == cp.line) = true := by rfl) (hs : starEach [.Call (.Attribute (.Name y np2) (Str.ofString "pop") ap2) [e] [] cp2] X.env = (false, eval (.Call (.Attribute (.Name y np2) (Str.ofString "pop") ap2) [e] [] cp2) X.env) :: starEach [] X.env := by rfl)
    (hb : attributeBase (.Name x np) (Str.ofString "append") X.env (eval (.Name x np) X.env) = eval (.Name x np) X.env := by rfl)
    (hf : ((backTo cp (starEach [.Call (.Attribute (.Name y np2) (Str.ofString "pop") ap2) [e] [] cp2] X.env)).all (fun x => !x.1) && (backToKw cp (keywordEach [] X.env)).all (fun x => x.1.isSome) && decide ([Expr.Call (.Attribute (.Name y np2) (Str.ofString "pop") ap2) [e] [] cp2].length + ([] : List Keyword).length + (if ([] : List Keyword).isEmpty then 0 else 1) < 30)) = true := by rfl)
    (hpl : (backTo cp (starEach [] X.env)).any (·.1) = false := by rfl)
    (hsw : swapsWith (.Call (.Attribute (.Name x np) (Str.ofString "append") ap) [.Call (.Attribute (.Name y np2) (Str.ofString "pop") ap2) [e] [] cp2] [] cp) none sp.line X.env = pure false := by rfl) :
    PSd X C (.Expr (.Call (.Attribute (.Name x np) (Str.ofString "append") ap) [.Call (.Attribute (.Name y np2) (Str.ofString "pop") ap2) [e] [] cp2] [] cp) sp) (sAppPop i j m) := by
  obtain ⟨te, p1, q1⟩ := h.ex
  refine ⟨_, ps_expr (pe_bm F.plainAttrs_list F.slot_list_append F.type_list_append mt_append (pe_var hN hv hd hcd) (pa_cons (pe_bm F.plainAttrs_list F.slot_list_pop F.type_list_pop mt_popAt (pe_var hN2 hv2 hd2 hcd2) (pa_cons p1 pa_nil hs2) hb2 hf2 hline2 hs2 hpl2) pa_nil hs) hb hf hline hs hpl) hsw, fun A0 O E G σ H D o G' R hm p => ?_⟩
  obtain ⟨fs, hE, hm⟩ := onL_some hm
  obtain ⟨l, xs, h1, h2, h3, _⟩ := R.lput hE
  obtain ⟨ds, hE2, hm⟩ := onL_some hm
  obtain ⟨l2, xs2, h21, h22, h23, _⟩ := R.lput hE2
  refine ⟨_, h1, ty_lst h2, ⟨_, h21, ty_lst h22, ?_⟩⟩
  show te σ H fun z H1 => rPopAt (.ref l2) [z] H1 fun v H2 => rAppend (.ref l) [v] H2 fun _ H3 => D.nx σ H3
  rcases rdS_cases hm with ⟨x, e1, rfl⟩ | ⟨z, G1, e1, hm1⟩
  · exact q1 _ E G σ H _ _ _ R.rel e1 p.perr
  · split at hm1
    case h_2 => cases hm1
    rename_i k
    split at hm1
    case isFalse => cases hm1
    rename_i hk
    obtain ⟨n, hj, hm1⟩ := Option.bind_eq_some_iff.mp hm1
    obtain ⟨d, hd1, hm1⟩ := Option.bind_eq_some_iff.mp hm1
    obtain ⟨fs1, hE3, hm1⟩ := onL_some hm1
    split at hm1
    case isFalse => cases hm1
    rename_i hz
    cases hm1
    refine q1 _ E G σ H _ _ _ R.rel e1 fun z H1 x1 j1 b1 => ?_
    cases b1.int
    have R1 := R.ext x1 j1
    obtain ⟨l', ys, g1, g2, g3, mu⟩ := R1.lput hE2
    rw [h21] at g1
    cases g1
    obtain ⟨v, hv1, hv2⟩ := g3.get hd1
    obtain ⟨_, _, _, ⟨zs, z1, z2, z3⟩, _⟩ := R1.mut hE2
    have e1 := z3.length
    have e2 := g3.length
    obtain ⟨r, s, kk⟩ := mu (ys.eraseIdx n) (ds.eraseIdx n) (Nat.le_trans (List.length_eraseIdx_le _ _) (by omega)) (g3.erase n)
    refine ⟨l2, ys, k, n, v, rfl, rfl, g2, hk.1, hk.2, by rw [e2]; exact hj, hv1, ?_⟩
    obtain ⟨l3, ws, w1, w2, w3, mu3⟩ := r.lput hE3
    rw [h1] at w1
    cases w1
    have hl := w3.length
    have := lt_sz hz
    obtain ⟨r4, s4, _⟩ := mu3 (ws ++ [v]) (fs1 ++ [d]) (by simp; omega) (w3.snoc (kk v d hv2))
    exact ⟨l, ws, v, rfl, rfl, w2, by omega, p O σ _ r4 (((StepT.of x1).trans s).trans s4)⟩
end
end Zd

set_option maxRecDepth 100000
set_option maxHeartbeats 4000000
namespace Zd
open PySem PySem.Spec L2
open PyProof.Rows hiding St
/-! ### dict(list of pairs), the keys tuples -/
def mergeL (kvs more : List (List Key × V)) : List (List Key × V) := more.foldl (fun acc kv => putK acc kv.1 kv.2) kvs
abbrev TKey (H : Hp) (k : List Key) (b : Addr) : Prop := H b = some (.tup (k.map kV))
/-- pair p holds the key kv.1 at b and the value kv.2 -/
def PairT (K : PySem.W.Frag) (H : Hp) (p : Addr) (kv : List Key × V) : Prop := ∃ b, SqT K H p [.ref b, kv.2] ∧ TKey H kv.1 b
theorem kt_merge {H : Hp} : ∀ {more : List (List Key × V)} {rs : List (List Key × Addr × Value)} {kvs : List (List Key × V)} {xs : List (List Key × Addr × Value)}, KT H more rs → KT H kvs xs → KT H (mergeL kvs more) (storedAllH xs rs) := by
  intro more rs kvs xs r
  unfold KT at r
  induction r generalizing kvs xs with
  | nil => intro q; exact q
  | @cons p q ps qs h t ih =>
    intro z
    obtain ⟨k, b, u⟩ := q
    obtain ⟨h1, h2, h3⟩ := h
    show KT H (mergeL (putK kvs p.1 p.2) ps) (storedAllH (storedH xs k b u) qs)
    cases (show p.1 = k from h1)
    exact ih (z.put p.1 h2 h3)
theorem length_mergeL (more : List (List Key × V)) : ∀ kvs, (mergeL kvs more).length ≤ kvs.length + more.length := by
  induction more with
  | nil => intro kvs; exact Nat.le_refl _
  | cons p more ih =>
    intro kvs
    have h1 := ih (putK kvs p.1 p.2)
    have h2 := length_putK kvs p.1 p.2
    show (mergeL (putK kvs p.1 p.2) more).length ≤ _
    rw [List.length_cons]
    omega
theorem is_keep {P : Program} {w : World} {h h' : Heap} {k : List Key} {b : Addr} (x : (tupleKind (mixKind P w)).is h k b) (e : ∀ o, h.get? b = some o → h'.get? b = some o) : (tupleKind (mixKind P w)).is h' k b := by
  obtain ⟨o, its, n, h1, h2⟩ := x
  exact ⟨o, its, n, e _ h1, h2⟩
section
variable {X : Cx}
theorem pairsT_of {pins : List (Addr × Obj)} {σ : L2.St} {H : Hp} {s : Shared} (I : Inv X pins σ H s) : ∀ {ps : List Addr} {kvs : List (List Key × V)}, Paired (PairT X.K H) ps kvs →
    ∃ rs : List (List Key × Addr × Value), KT H kvs rs ∧ rs.length = ps.length ∧ ∀ (j : Nat) (q : List Key × Addr × Value), rs[j]? = some q → ∃ (b : Addr), ps[j]? = some b ∧ IsTup s.heap b #[.ref q.2.1, q.2.2]
  | _, _, .nil => ⟨[], .nil, rfl, fun j q e => by simp at e⟩
  | _, _, .cons (a := p) (b := kv) h t => by
    obtain ⟨rs, r, hl, hp⟩ := pairsT_of I t
    obtain ⟨b, h, hb⟩ := h
    obtain ⟨its, rv, ht, _⟩ := I.tuple h
    obtain ⟨u, y, ei, ru, ry⟩ := vals2 rv
    subst ei
    cases (show u = Value.ref b from ru)
    refine ⟨(kv.1, b, y) :: rs, .cons ⟨rfl, hb, ry⟩ r, by rw [List.length_cons, List.length_cons, hl], fun j q e => ?_⟩
    cases j with
    | zero =>
      have e' : (kv.1, b, y) = q := Option.some.inj e
      subst e'
      exact ⟨p, rfl, ht⟩
    | succ j =>
      obtain ⟨b', e1, e2⟩ := hp j q (by simpa using e)
      exact ⟨b', by simpa using e1, e2⟩
theorem cr_dictT (hcalm : X.calm = true) (hu : X.A.units + 3 < cLine) : CallR X (.type "dict") (fun xs H Q => ∃ (a : Addr) (ps : List Addr) (kvs : List (List Key × V)), xs = [.ref a] ∧ SqL X.K H a (ps.map V.ref) ∧ Paired (PairT X.K H) ps kvs ∧
    ∀ p, H p = none → Q (.ref p) (upd H p (.dT (mergeL [] kvs)))) := by
  intro pins s σ H xs us Q I r q
  obtain ⟨a, ps, kvs, ex, hq, hp, q⟩ := q
  subst ex
  obtain ⟨u, eu, rx⟩ := vals1 r
  subst eu
  cases rx
  obtain ⟨its, rv, pl, hz⟩ := I.list hq
  have ei := refs_at rv
  subst ei
  rw [List.length_map] at hz
  obtain ⟨rs, rel, hl, hpr⟩ := pairsT_of I hp
  obtain ⟨o, n, ho, hc, hd, hdat⟩ := pl
  have keys : ∀ x ∈ rs, (tupleKind (mixKind X.prog X.w)).is s.heap x.1 x.2.1 := by
    have all : ∀ {l : List (List Key × V)} {m : List (List Key × Addr × Value)}, KT H l m → ∀ x ∈ m, (tupleKind (mixKind X.prog X.w)).is s.heap x.1 x.2.1 := by
      intro l m q
      induction q with
      | nil => intro x hx; exact nomatch hx
      | @cons p q ps qs hq t ih =>
        intro x hx
        rcases List.mem_cons.mp hx with e | hx
        · subst e
          exact key_of I.hok (by rw [← hq.1]; exact hq.2.1)
        · exact ih x hx
    exact all rel
  have isz : ∀ {k : List Key} {b : Addr}, (tupleKind (mixKind X.prog X.w)).is s.heap k b → b < s.heap.objs.size := fun x => by
    obtain ⟨o, its, n, h1, h2⟩ := x
    exact Heap.lt_size h1
  have hps : ∀ j : Nat, j < rs.length → ∃ b, ps[j]? = some b := fun j hj => by
    rw [hl] at hj
    exact ⟨ps[j], List.getElem?_eq_getElem hj⟩
  refine PySem.call_dict_pairsH (knd := tupleKind (mixKind X.prog X.w)) (ps := rs) (PairArg.list a (ps.map Value.ref).toArray (fun j => ps.getD j 0) (rs.map fun x => (Value.ref x.2.1, x.2.2))) (I.ok.hd hcalm) (show (X.A.in1.in1).units < cLine from ?_)
    ⟨⟨o, n, ho, hc, hd, hdat⟩, by simp [hl], fun j k v e => ?_⟩ ⟨by rw [List.length_map], fun i key v e => ?_⟩ (fun h' hk x hx => is_keep (keys x hx) fun o e => hk _ o (Nat.ne_of_lt (isz (keys x hx))) (fun z => nomatch z) e) (by rw [List.length_map, hl]; exact hz) fun h' tk hd' k => ?_
  · show X.A.units + 2 < cLine
    omega
  · rw [List.getElem?_map] at e
    obtain ⟨q', e1, e2⟩ := Option.map_eq_some_iff.mp e
    cases e2
    obtain ⟨b, h1, h2⟩ := hpr j q' e1
    have e3 : ps.getD j 0 = b := by rw [List.getD_eq_getElem?_getD, h1] <;> rfl
    show (ps.map Value.ref).toArray[j]? = some (Value.ref (ps.getD j 0)) ∧ PairAt s.heap (ps.getD j 0) _ _
    rw [e3]
    refine ⟨by simp [h1], .inl h2⟩
  · have e' : (rs.map fun x => (Value.ref x.2.1, x.2.2))[i]? = some (key, v) := e
    rw [List.getElem?_map] at e'
    obtain ⟨q', e1, e2⟩ := Option.map_eq_some_iff.mp e'
    cases e2
    exact ⟨q'.1, q'.2.1, e1, rfl⟩
  · have hm : (s.heap.objs.size == sysModules) = false := beq_eq_false_iff_ne.mpr (Nat.ne_of_gt I.big)
    have hlen : (mergeL [] kvs).length ≤ sizeLine := by
      refine Nat.le_trans (length_mergeL kvs []) ?_
      rw [List.length_nil, Nat.zero_add, Paired.length rel, hl]
      exact hz
    have hn : H s.heap.objs.size = none := I.hok.fresh (Nat.le_refl _)
    obtain ⟨q0, es, ep, hq, h2, h3, h4, _, h5⟩ := hd'
    refine ⟨.ref s.heap.objs.size, upd H s.heap.objs.size (.dT (mergeL [] kvs)), I.laid (t' := tk) (fun b o e => k b o (fun z => nomatch z) e) (Nat.le_refl _) ⟨hlen, hm, _, (kt_merge rel .nil).keeps fun c ys ec => ?_, q0, es, ep, hq, h2, h3, h4, h5⟩, rfl, q _ hn⟩
    rw [upd_ne fun z => by rw [z, hn] at ec; cases ec]
    exact ec
end
/-! ### the same on data -/
def pairTOf : PyData → Option (List Key × PyData)
  | .tuple [.tuple ks, d] => if ks.length ≤ 100000 then (keysK ks).map fun k => (k, d) else none
  | _ => none
def pairsTOf : List PyData → Option (List (List Key × PyData))
  | [] => some []
  | d :: r => (pairTOf d).bind fun k => (pairsTOf r).map (k :: ·)
def mergeDT (kvs : List (PyData × PyData)) (more : List (List Key × PyData)) : List (PyData × PyData) := more.foldl (fun acc kv => putD acc (.inr kv.1) kv.2) kvs
def gt (ls : List (List Key × V)) : List (GK × V) := ls.map fun p => (.inr p.1, p.2)
section
variable {K : PySem.W.Frag} {H : Hp} {A : Addr → Prop}
theorem dvs_keys : ∀ {ks : List Key} {xs : List V}, Dvs K H A xs (ks.map keyD) → xs = ks.map kV
  | [], _, .nil => rfl
  | k :: ks, v :: xs, q => by
    rw [List.map_cons] at q
    cases q with
    | cons a q =>
      rw [List.map_cons, dvs_keys q]
      congr 1
      cases k <;> cases a <;> rfl
theorem pairT_of {v : V} {d e : PyData} {k : List Key} (a : Dv K H A v d) (h : pairTOf d = some (k, e)) : ∃ t w, v = .ref t ∧ PairT K H t (k, w) ∧ k.length ≤ sizeLine ∧ Dv K H A w e := by
  unfold pairTOf at h
  split at h
  · rename_i ks d'
    split at h
    · rename_i hz
      obtain ⟨k', h1, h2⟩ := Option.map_eq_some_iff.mp h
      cases h2
      cases a with
      | tup e1 z q => cases q with | cons a1 q => cases q with | cons a2 q =>
        cases q
        cases a1 with
        | @tup b ys _ e2 z2 q2 =>
          rw [keysK_some h1] at q2 hz
          rw [dvs_keys q2] at e2
          exact ⟨_, _, rfl, ⟨b, .inl (.inl e1), e2⟩, sz (by rw [List.length_map] at hz; exact hz), a2⟩
    · cases h
  · cases h
theorem pairsT_dv : ∀ {ds : List PyData} {xs : List V} {qs : List (List Key × PyData)}, Dvs K H A xs ds → pairsTOf ds = some qs →
    ∃ (ps : List Addr) (kvs : List (List Key × V)), xs = ps.map V.ref ∧ Paired (PairT K H) ps kvs ∧ Paired (fun (kv : List Key × V) (q : List Key × PyData) => kv.1 = q.1 ∧ kv.1.length ≤ sizeLine ∧ Dv K H A kv.2 q.2) kvs qs
  | [], _, _, .nil, h => by cases h; exact ⟨[], [], rfl, .nil, .nil⟩
  | d :: ds, v :: xs, _, .cons a b, h => by
    unfold pairsTOf at h
    obtain ⟨⟨k, e⟩, h1, h2⟩ := Option.bind_eq_some_iff.mp h
    obtain ⟨qs, h3, rfl⟩ := Option.map_eq_some_iff.mp h2
    obtain ⟨ps, kvs, rfl, p1, p2⟩ := pairsT_dv b h3
    obtain ⟨t, w, rfl, q1, q2, q3⟩ := pairT_of a h1
    exact ⟨t :: ps, (k, w) :: kvs, rfl, .cons q1 p1, .cons ⟨rfl, q2, q3⟩ p2⟩
theorem gt_put {acc : List (List Key × V)} {acc' : List (PyData × PyData)} {k : List Key} {v : V} {d : PyData} (q : Dvk K H A (gt acc) acc') (a : Dv K H A v d) : Dvk K H A (gt (putK acc k v)) (putD acc' (.inr k) d) := by
  have := q.put (.inr k) a
  unfold gt at this ⊢
  rw [putK_inr] at this
  exact this
theorem mergeT_dvk : ∀ {kvs : List (List Key × V)} {qs : List (List Key × PyData)} {ks : List (List Key × V)} {ds : List (PyData × PyData)}, Paired (fun (kv : List Key × V) (q : List Key × PyData) => kv.1 = q.1 ∧ kv.1.length ≤ sizeLine ∧ Dv K H A kv.2 q.2) kvs qs → Dvk K H A (gt ks) ds →
    (∀ p ∈ ks, p.1.length ≤ sizeLine) → Dvk K H A (gt (mergeL ks kvs)) (mergeDT ds qs) ∧ ∀ p ∈ mergeL ks kvs, p.1.length ≤ sizeLine
  | [], [], _, _, .nil, h, z => ⟨h, z⟩
  | (k, v) :: kvs, (k', d) :: qs, ks, ds, .cons ⟨e, y, a⟩ b, h, z => by
    cases e
    show Dvk K H A (gt (mergeL (putK ks k v) kvs)) (mergeDT (putD ds (.inr k) d) qs) ∧ _
    refine mergeT_dvk b (gt_put h a) fun p hp => ?_
    rcases putK_keys ks k v p hp with h | ⟨q, h1, h2⟩
    · rw [h]; exact y
    · rw [← h2]; exact z q h1
end
theorem mergeL_ne : ∀ (more kvs : List (List Key × V)), kvs ≠ [] ∨ more ≠ [] → mergeL kvs more ≠ []
  | [], kvs, h => h.elim id fun z => absurd rfl z
  | p :: more, kvs, _ => mergeL_ne more _ (.inl (putK_ne kvs p.1 p.2))
def dictXF : List PyData → Option PyData
  | [.list ds] => match pairsOf ds with
    | some ps => some (.dict (mergeD [] ps))
    | none => (pairsTOf ds).map fun ps => .dict (mergeDT [] ps)
  | _ => none
section
variable {X : Cx} {C : Cn}
theorem f_dictX (hc : X.calm = true) (hK : X.K = C.K) (hu : X.A.units + 70 < cLine) : CallR X (.type "dict") (rZnF C dictXF) := by
  intro pins s σ H vs us Q I rv h
  obtain ⟨A, ds0, dz, trk, ef, bs, hg, k⟩ := h
  unfold dictXF at hg
  split at hg
  · rename_i ds
    split at hg
    · rename_i ps hp
      cases hg
      exact f_dictP hc hK pins s σ H vs us Q I rv ⟨A, _, _, trk, ef, bs, by show (pairsOf ds).map _ = _; rw [hp]; rfl, k⟩
    · rename_i hno
      obtain ⟨qs, h1, rfl⟩ := Option.map_eq_some_iff.mp hg
      obtain ⟨v, rfl, b⟩ := b1 bs
      obtain ⟨a, xs, rfl, h2, h3, h4⟩ := b.list
      obtain ⟨ps, kvs, rfl, p1, p2⟩ := pairsT_dv h4 h1
      have ne : mergeL [] kvs ≠ [] := by
        refine mergeL_ne kvs [] (.inr fun z => ?_)
        subst z
        cases p2
        cases ds with
        | nil => cases hno
        | cons d r =>
          unfold pairsTOf at h1
          obtain ⟨_, _, h2⟩ := Option.bind_eq_some_iff.mp h1
          obtain ⟨_, _, h3⟩ := Option.map_eq_some_iff.mp h2
          cases h3
      rw [← hK] at p1
      refine cr_dictT hc (by omega) pins s σ H _ us Q I rv ⟨a, ps, kvs, rfl, .inl (.inl h2), p1, fun p n => ?_⟩
      obtain ⟨w1, w2⟩ := mergeT_dvk (ks := []) p2 .nil fun p hp => by cases hp
      refine k p _ n (Kept.new n) ⟨_, ⟨_, upd_same, .inr ⟨_, rfl, ne, w2, rfl⟩⟩, ?_⟩
      exact (w1.wide (A' := fun a => A a ∨ a = p) fun a q => q.elim .inl fun z => .inr (by rw [z]; exact n)).kept (Kept.new n)
  · cases hg
theorem readsAll_keys {h : Heap} : ∀ {ks : List Key} {us : List Value}, Vals (ks.map kV) us → ReadsAll h us (ks.map keyD) []
  | [], _, .nil => .nil
  | k :: ks, u :: us, q => by
    rw [List.map_cons] at q
    cases q with
    | cons a q =>
      have := readsAll_keys (h := h) q
      cases k with
      | inl i => obtain ⟨t, rfl⟩ := a; exact .cons (as := []) (.int i t) this
      | inr x => obtain ⟨t, rfl⟩ := a; exact .cons (as := []) (.str x t) this
theorem reads_key {pins : List (Addr × Obj)} {σ : L2.St} {H : Hp} {s : Shared} {k : List Key} {b : Addr} (I : Inv X pins σ H s) (hb : H b = some (.tup (k.map kV))) : Reads s.heap (.ref b) (.tuple (k.map keyD)) [] := by
  obtain ⟨its, r, ⟨o, ho, hc, n, hd⟩, hs⟩ := I.tuple (.inl (.inl hb))
  exact .tuple ho hc hd (by simpa using readsAll_keys r)
def isTD : PyData → Bool
  | .tuple _ => true
  | _ => false
def sortTF : List PyData → Option PyData
  | [.dict kvs] => if !kvs.isEmpty && (kvs.map (·.1)).all isTD && decide (kvs.length ≤ 100000) && alikeB (kvs.map (·.1)) && sortableB (kvs.map (·.1)) && (kvs.map (·.1)).all SeqAt.shaped then some (.list ((kvs.map (·.1)).mergeSort (PySem.W.dataLe false id))) else none
  | _ => none
theorem f_sortT (hc : X.calm = true) (hK : X.K = C.K) (hu : X.A.units + 70 < cLine) : CallR X (.builtin "sorted") (rZnF C sortTF) := by
  intro pins s σ H vs us Q I rv h
  obtain ⟨A, ds0, dz, trk, ef, bs, hg, k⟩ := h
  unfold sortTF at hg
  split at hg
  · rename_i kvs
    split at hg
    · rename_i hc0
      cases hg
      simp only [Bool.and_eq_true] at hc0
      obtain ⟨⟨⟨⟨⟨c1, c2⟩, c3⟩, c4⟩, c5⟩, c6⟩ := hc0
      obtain ⟨v, rfl, b⟩ := b1 bs
      obtain ⟨a, ks, rfl, ⟨o, g, q⟩, h4⟩ := b.dict
      obtain ⟨u, rfl, r1⟩ := vals1 rv
      cases (show u = Value.ref a from r1)
      rcases q with ⟨ls, rfl, rfl⟩ | ⟨ls, rfl, ne, lz, rfl⟩
      · cases ls with
        | nil =>
          cases h4
          cases c1
        | cons p r =>
          rw [List.map_cons] at h4
          cases h4
          rw [List.map_cons, List.all_cons, Bool.and_eq_true] at c2
          obtain ⟨k1, _⟩ := p
          have := c2.1
          cases k1 <;> cases this
      · generalize hkd : kvs.map (·.1) = kd at *
        have ekd : kd = ls.map fun p => PyData.tuple (p.1.map keyD) := by
          rw [← hkd]
          have go : ∀ {ls : List (List Key × V)} {kvs : List (PyData × PyData)}, Dvk C.K H A (ls.map fun p => ((.inr p.1 : GK), p.2)) kvs → kvs.map (·.1) = ls.map fun p => PyData.tuple (p.1.map keyD) := by
            intro ls
            induction ls with
            | nil => intro kvs q; cases q; rfl
            | cons p r ih =>
              intro kvs q
              rw [List.map_cons] at q
              cases q with
              | cons a b => rw [List.map_cons, List.map_cons, ih b]; rfl
          exact go h4
        obtain ⟨z, hs, xs, pr, o, es, ep, ho, hx, hdt, he, hn⟩ := (show ObjOk X.prog X.w H s.heap a (.dT ls) from g.ok I.hok)
        have l1 : es.size = xs.length := size_of_entries he
        have l2 : ls.length = xs.length := Paired.length pr
        refine Calls.call_function_entry PyProof.Rows.kind_sorted PyProof.Rows.plain_sorted PyProof.Rows.entry_sorted (PyProof.Rows.args_sorted1 _) ?_
        unfold Builtin.«sorted»
        refine wpAny_bind (m := checkCount "sorted" 1 1 _) (wpAny_pure ?_)
        refine wpAny_bind (PySem.W.kdu_collect (A := X.A.in1) (kdl_raw hs hx hdt) (I.ok.hd hc) ho (by omega) fun h' tk acc kp it => ?_)
        have ea : acc.toList = xs.map fun x => Value.ref x.2.1 := by
          have hl : acc.toList.length = xs.length := by rw [Array.length_toList, it.1]; exact l1
          apply List.ext_getElem?
          intro j
          rw [List.getElem?_map]
          cases hj : acc.toList[j]? with
          | none =>
            have h1 := List.getElem?_eq_none_iff.mp hj
            rw [List.getElem?_eq_none (by omega)]
            all_goals rfl
          | some v =>
            obtain ⟨en, hen, hv⟩ := it.2 j v (by rw [← Array.getElem?_toList]; exact hj)
            have qe := entry_at he j
            rw [hen] at qe
            cases hb : xs[j]? with
            | none =>
              rw [hb] at qe
              exact nomatch (show some en = none from qe)
            | some b =>
              rw [hb] at qe
              have e2 : en = entryOfKey (tupleKind (mixKind X.prog X.w)) b := Option.some.inj qe
              rw [hv, e2]
              all_goals rfl
        have I1 : Inv X pins σ H { s with heap := h', toks := tk } := I.kept kp
        have hal : acc.toList.length = ls.length := by rw [ea, List.length_map, l2]
        refine wpAny_bind (wpAny_newList ?_ (by rw [hal]; omega))
        have hoL : (h'.push (seqObj "list" acc.toList.toArray 0)).get? h'.objs.size = some (seqObj "list" acc.toList.toArray 0) := Heap.get?_push_size _ rfl
        have I2 : Inv X pins σ H { s with heap := h'.push (seqObj "list" acc.toList.toArray 0), toks := tk } := I1.kept fun b o e => Heap.get?_push_of_some _ e
        have e0 : PySem.W.EachIs (fun v d => ∃ x, RelV x v ∧ Dv C.K H A x d) acc.toList kd := by
          rw [ea, ekd]
          have go : ∀ {ls : List (List Key × V)} {xs : List (List Key × Addr × Value)}, KT H ls xs → (∀ p ∈ ls, p.1.length ≤ sizeLine) → PySem.W.EachIs (fun v d => ∃ x, RelV x v ∧ Dv C.K H A x d) (xs.map fun x => Value.ref x.2.1) (ls.map fun p => PyData.tuple (p.1.map keyD)) := by
            intro ls xs q
            induction q with
            | nil => intro _; exact .nil
            | @cons p q ps qs h t ih =>
              intro hz
              rw [List.map_cons, List.map_cons]
              refine .cons ⟨.ref q.2.1, rfl, ?_⟩ (ih fun p hp => hz p (List.mem_cons_of_mem _ hp))
              exact KeyAt.dv (k := .inr p.1) ⟨hz _ List.mem_cons_self, _, rfl, h.2.1⟩
          exact go pr lz
        have e1 : PySem.W.EachIs (fun v d => ∃ as, Reads (h'.push (seqObj "list" acc.toList.toArray 0)) v (id d) as ∧ h'.objs.size ∉ as) acc.toList kd := by
          rw [ea, ekd]
          have go2 : ∀ {ls : List (List Key × V)} {xs : List (List Key × Addr × Value)} (hh : Heap), (∀ (k : List Key) (b : Addr), H b = some (.tup (k.map kV)) → Reads hh (.ref b) (.tuple (k.map keyD)) []) → KT H ls xs → PySem.W.EachIs (fun v d => ∃ as, Reads hh v (id d) as ∧ h'.objs.size ∉ as) (xs.map fun x => Value.ref x.2.1) (ls.map fun p => PyData.tuple (p.1.map keyD)) := by
            intro ls xs hh hk q
            induction q with
            | nil => exact .nil
            | @cons p q ps qs h t ih =>
              rw [List.map_cons, List.map_cons]
              exact .cons ⟨[], hk _ _ h.2.1, fun z => nomatch z⟩ ih
          refine go2 _ (fun k b hb => ?_) pr
          have := reads_key I2 hb
          rw [ea] at this
          exact this
        have sh : ∀ d ∈ kd, SeqAt.shaped d = true := List.all_eq_true.mp c6
        have hal2 : PySem.W.AllAlike (kd.map id) := by
          rw [List.map_id]
          intro d hd d' hd'
          exact List.all_eq_true.mp (List.all_eq_true.mp c4 d hd) d' hd'
        have hso : PySem.W.Sortable (kd.map id) := by
          rw [List.map_id]
          unfold sortableB at c5
          rw [Bool.or_eq_true] at c5
          rcases c5 with c2 | c2
          · refine .inl fun d hd => ?_
            have q := List.all_eq_true.mp c2 d hd
            cases d with
            | tuple xs => cases xs with
              | nil => cases q
              | cons x r => exact ⟨x, r, rfl⟩
            | _ => cases q
          · refine .inr fun d hd => ?_
            have q := List.all_eq_true.mp c2 d hd
            refine ⟨fun h => ?_, fun xs h => ?_⟩
            · rw [h] at q; cases q
            · rw [h] at q; cases q
        have lkd : kd.length = ls.length := by rw [ekd, List.length_map]
        refine wpAny_bind (wpAny_holding (PySem.W.list_sort_data (s := { s with heap := h'.push (seqObj "list" acc.toList.toArray 0), toks := tk }) (A := X.A.in1) hoL e0 e1 hal2 hso (by rw [lkd]; exact z) (fun d hd => by have := depth_of (sh d hd); show X.A.units + 1 + 1 + d.depth < _; omega) fun out ho2 eo => ?_))
        obtain ⟨ep', he'⟩ := PyProof.Rows.sortedHeap_at (vs := acc.toList) (out := out.toArray) hoL
        obtain ⟨ys, r2, d2⟩ : ∃ ys, Vals ys out ∧ Dvs C.K H A ys (kd.mergeSort (PySem.W.dataLe false id)) := by
          generalize kd.mergeSort (PySem.W.dataLe false id) = es at eo
          clear ho2 he'
          induction eo with
          | nil => exact ⟨[], .nil, .nil⟩
          | cons h _ ih =>
            obtain ⟨x, q1, q2⟩ := h
            obtain ⟨ys, q3, q4⟩ := ih
            exact ⟨x :: ys, .cons q1 q3, .cons q2 q4⟩
        have hlen : ys.length ≤ sizeLine := by rw [d2.length, List.length_mergeSort, lkd]; exact z
        have n : H h'.objs.size = none := I1.hok.fresh (Nat.le_refl _)
        refine wpAny_pure ⟨_, rfl, .ref h'.objs.size, upd H h'.objs.size (.lst ys), I1.laid (t' := tk) (fun b u e => ?_) (Nat.le_refl _)
          (show ObjOk X.prog X.w _ _ _ (.lst ys) from ⟨hlen, out, ep', r2, he'⟩), rfl, k _ _ n (Kept.new n) (own_lst n hlen d2)⟩
        have hb : b < h'.objs.size := Heap.lt_size e
        rw [PyProof.Rows.sortedHeap_old (Nat.ne_of_lt hb) (by rw [size_push']; exact Nat.lt_succ_of_lt hb)]
        exact Heap.get?_push_of_some _ e
    · cases hg
  · cases hg
end
end Zd

set_option maxRecDepth 100000
set_option maxHeartbeats 4000000
namespace Zd
open PySem
open Sem (wp)
section
variable {prog : Program} {w : World} {A : Around} {E : Value → Shared → Prop} {s : Shared}
/-! ### a zip of two tuples whose pair is still out: turned from the lists' case -/
theorem zT_next_item {z TI TO T i1 i2 l1 l2 : Addr} {f : Bool} {oT : Obj} {k1 k2 : Nat} {xs ys : Array Value} {x y : Value} {Q : Value → Shared → Prop} (D : ZipApart z TI TO i1 i2 l1 l2)
    (hz : IsZipHeld s.heap z TI TO T f) (hT : s.heap.get? T = some oT) (hTI : IsPair s.heap TI (.ref i1) (.ref i2))
    (h1 : s.heap.IsTupleIter i1 l1 k1) (h2 : s.heap.IsTupleIter i2 l2 k2) (hl1 : s.heap.IsTuple l1 xs) (hl2 : s.heap.IsTuple l2 ys) (hx : xs[k1]? = some x) (hy : ys[k2]? = some y)
    (hQ : ∀ h', IsZipHeld h' z TI TO T true → h'.IsTupleIter i1 l1 (k1 + 1) → h'.IsTupleIter i2 l2 (k2 + 1) → IsPair h' s.heap.objs.size x y → h'.objs.size = s.heap.objs.size + 1 →
      (∀ c o, c ≠ z → c ≠ i1 → c ≠ i2 → s.heap.get? c = some o → h'.get? c = some o) → Q (.ref s.heap.objs.size) { s with heap := h' }) :
    wpAny (model prog w) A (Builtin.«zip.__next__» ⟨[.ref z], []⟩) (fun fin s' => ∃ v, fin = .done (.ret v) ∧ Q v s') E s := by
  show wpAny _ _ (field (.ref z) 2 >>= _) _ _ _
  refine wpAny_bind (wpAny_field hz rfl (x := .bool false) rfl ?_)
  show wpAny _ _ (field (.ref z) 3 >>= _) _ _ _
  refine wpAny_bind (wpAny_field hz rfl (x := .ref TI) rfl ?_)
  refine wpAny_bind (wpAny_seqItems hTI rfl ?_)
  show wpAny _ _ (Builtin.SmallTypes.ownedTupleIsFree (.ref z) >>= _) _ _ _
  refine wpAny_bind (wpAny_tupleHeld_zip hz hT fun h₁ hz₁ hs₁ => ?_)
  simp only [Bool.false_eq_true, if_false]
  refine wpAny_bind ?_
  rw [← Array.forIn_toList]
  simp only [List.forIn_cons, List.forIn_nil]
  refine wpAny_bind (wpAny_bind (wpAny_holding ?_))
  show wpAny _ _ (Builtin.SmallTypes.nextOf (.ref i1) >>= _) _ _ _
  refine wpAny_bind (RZ.nextOf_tuple_item (s := { s with heap := h₁ }) (h1.extBut hs₁.extBut D.i1z) (hl1.extBut hs₁.extBut D.l1z) hx fun h₂ h1₂ hs₂ => wpAny_pure ?_)
  refine wpAny_pure ?_
  refine wpAny_bind (wpAny_bind (wpAny_holding ?_))
  show wpAny _ _ (Builtin.SmallTypes.nextOf (.ref i2) >>= _) _ _ _
  refine wpAny_bind (RZ.nextOf_tuple_item (s := { s with heap := h₂ }) ((h2.extBut hs₁.extBut D.i2z).extBut hs₂.extBut D.i12.symm) ((hl2.extBut hs₁.extBut D.l2z).extBut hs₂.extBut D.l2i1) hy fun h₃ h2₃ hs₃ => wpAny_pure ?_)
  refine wpAny_pure (wpAny_pure ?_)
  show wpAny _ _ (newTuple [x, y] >>= _) _ _ _
  refine wpAny_bind (wpAny_newTuple ?_)
  have hsz : h₃.objs.size = s.heap.objs.size := by rw [hs₃.1, hs₂.1, hs₁.1]
  have hz₃ : IsZipHeld h₃ z TI TO T true := hs₃.extBut _ _ D.i2z.symm (hs₂.extBut _ _ D.i1z.symm hz₁)
  have hk : ∀ c o, c ≠ z → c ≠ i1 → c ≠ i2 → s.heap.get? c = some o → h₃.get? c = some o := fun c o c1 c2 c3 e => hs₃.extBut _ _ c3 (hs₂.extBut _ _ c2 (hs₁.extBut _ _ c1 e))
  have h1₃ : h₃.IsTupleIter i1 l1 (k1 + 1) := h1₂.extBut hs₃.extBut D.i12
  refine wpAny_pure ⟨_, rfl, ?_⟩
  show Q (.ref h₃.objs.size) _
  have hp : IsPair (h₃.push { cls := .type "tuple", data := .seq #[x, y] }) h₃.objs.size x y := Heap.get?_push_size _ rfl
  have hz4 : (h₃.push { cls := .type "tuple", data := .seq #[x, y] }).objs.size = h₃.objs.size + 1 := Heap.size_push ..
  rw [hsz] at hp hz4 ⊢
  exact hQ _ (Heap.get?_push_of_some _ hz₃) (h1₃.at fun o e => Heap.get?_push_of_some _ e) (h2₃.at fun o e => Heap.get?_push_of_some _ e) hp hz4 fun c o c1 c2 c3 e => Heap.get?_push_of_some _ (hk c o c1 c2 c3 e)

theorem zT_next_end {z TI TO T i1 i2 l1 l2 : Addr} {f : Bool} {oT : Obj} {k1 k2 : Nat} {xs ys : Array Value} {Q : Fin → Shared → Prop} (hh : A.handled = none) (D : ZipApart z TI TO i1 i2 l1 l2)
    (hz : IsZipHeld s.heap z TI TO T f) (hT : s.heap.get? T = some oT) (hTI : IsPair s.heap TI (.ref i1) (.ref i2))
    (h1 : s.heap.IsTupleIter i1 l1 k1) (h2 : s.heap.IsTupleIter i2 l2 k2) (hl1 : s.heap.IsTuple l1 xs) (hl2 : s.heap.IsTuple l2 ys) (hend : xs[k1]? = none ∨ ys[k2]? = none)
    (hE : ∀ h' e, (∀ c o, c ≠ z → c ≠ i1 → c ≠ i2 → s.heap.get? c = some o → h'.get? c = some o) → (∃ o, h'.get? e = some o ∧ o.cls = .type "StopIteration") → E (.ref e) { s with heap := h' }) :
    wpAny (model prog w) A (Builtin.«zip.__next__» ⟨[.ref z], []⟩) Q E s := by
  show wpAny _ _ (field (.ref z) 2 >>= _) _ _ _
  refine wpAny_bind (wpAny_field hz rfl (x := .bool false) rfl ?_)
  show wpAny _ _ (field (.ref z) 3 >>= _) _ _ _
  refine wpAny_bind (wpAny_field hz rfl (x := .ref TI) rfl ?_)
  refine wpAny_bind (wpAny_seqItems hTI rfl ?_)
  show wpAny _ _ (Builtin.SmallTypes.ownedTupleIsFree (.ref z) >>= _) _ _ _
  refine wpAny_bind (wpAny_tupleHeld_zip hz hT fun h₁ hz₁ hs₁ => ?_)
  simp only [Bool.false_eq_true, if_false]
  refine wpAny_bind ?_
  rw [← Array.forIn_toList]
  simp only [List.forIn_cons, List.forIn_nil]
  refine wpAny_bind (wpAny_bind (wpAny_holding ?_))
  show wpAny _ _ (Builtin.SmallTypes.nextOf (.ref i1) >>= _) _ _ _
  cases hx : xs[k1]? with
  | none =>
    refine wpAny_bind (RZ.nextOf_tuple_end (s := { s with heap := h₁ }) hh (h1.extBut hs₁.extBut D.i1z) (hl1.extBut hs₁.extBut D.l1z) hx fun h₂ e hs₂ he => ?_)
    exact hE h₂ e (fun c o c1 c2 _ x => hs₂ _ _ c2 (hs₁.extBut _ _ c1 x)) he
  | some x =>
    have hy : ys[k2]? = none := by rcases hend with h | h; rw [hx] at h; cases h; exact h
    refine wpAny_bind (RZ.nextOf_tuple_item (s := { s with heap := h₁ }) (h1.extBut hs₁.extBut D.i1z) (hl1.extBut hs₁.extBut D.l1z) hx fun h₂ h1₂ hs₂ => wpAny_pure ?_)
    refine wpAny_pure ?_
    refine wpAny_bind (wpAny_bind (wpAny_holding ?_))
    show wpAny _ _ (Builtin.SmallTypes.nextOf (.ref i2) >>= _) _ _ _
    refine wpAny_bind (RZ.nextOf_tuple_end (s := { s with heap := h₂ }) hh ((h2.extBut hs₁.extBut D.i2z).extBut hs₂.extBut D.i12.symm) ((hl2.extBut hs₁.extBut D.l2z).extBut hs₂.extBut D.l2i1) hy fun h₃ e hs₃ he => ?_)
    exact hE h₃ e (fun c o c1 c2 c3 x => hs₃ _ _ c3 (hs₂.extBut _ _ c2 (hs₁.extBut _ _ c1 x))) he

theorem zT_item_held {z TI TO T i1 i2 l1 l2 : Addr} {f : Bool} {oT : Obj} {k1 k2 : Nat} {xs ys : Array Value} {x y : Value} {Q : Option Value → Shared → Prop} (D : ZipApart z TI TO i1 i2 l1 l2)
    (hz : IsZipHeld s.heap z TI TO T f) (hT : s.heap.get? T = some oT) (hTI : IsPair s.heap TI (.ref i1) (.ref i2))
    (h1 : s.heap.IsTupleIter i1 l1 k1) (h2 : s.heap.IsTupleIter i2 l2 k2) (hl1 : s.heap.IsTuple l1 xs) (hl2 : s.heap.IsTuple l2 ys) (hx : xs[k1]? = some x) (hy : ys[k2]? = some y)
    (hQ : ∀ h', IsZipHeld h' z TI TO T true → h'.IsTupleIter i1 l1 (k1 + 1) → h'.IsTupleIter i2 l2 (k2 + 1) → IsPair h' s.heap.objs.size x y → h'.objs.size = s.heap.objs.size + 1 →
      (∀ c o, c ≠ z → c ≠ i1 → c ≠ i2 → s.heap.get? c = some o → h'.get? c = some o) → Q (some (.ref s.heap.objs.size)) { s with heap := h' }) :
    wpAny (model prog w) A (pyNext (.ref z)) Q E s := by
  have hTy : s.TypeIs (.ref z) "zip" := ⟨_, hz, rfl⟩
  unfold pyNext
  exact wpAny_bind (wpAny_attempt (wpAny_callSpecial?_slot (name := Str.ofString "__next__") hTy F.slot_zip_next
    (wpAny_call_entry F.slot_zip_next hTy F.entry_zip_next
      (zT_next_item D hz hT hTI h1 h2 hl1 hl2 hx hy fun h' a1 a3 a4 a5 a6 a7 => wpAny_pure (hQ h' a1 a3 a4 a5 a6 a7)) (F.args_zip_next_1 _))))
theorem zT_end_held {z TI TO T i1 i2 l1 l2 : Addr} {f : Bool} {oT : Obj} {k1 k2 : Nat} {xs ys : Array Value} {Q : Option Value → Shared → Prop} (hh : A.handled = none) (D : ZipApart z TI TO i1 i2 l1 l2)
    (hz : IsZipHeld s.heap z TI TO T f) (hT : s.heap.get? T = some oT) (hTI : IsPair s.heap TI (.ref i1) (.ref i2))
    (h1 : s.heap.IsTupleIter i1 l1 k1) (h2 : s.heap.IsTupleIter i2 l2 k2) (hl1 : s.heap.IsTuple l1 xs) (hl2 : s.heap.IsTuple l2 ys) (hend : xs[k1]? = none ∨ ys[k2]? = none)
    (hQ : ∀ h', (∀ c o, c ≠ z → c ≠ i1 → c ≠ i2 → s.heap.get? c = some o → h'.get? c = some o) → Q none { s with heap := h' }) : wpAny (model prog w) A (pyNext (.ref z)) Q E s := by
  have hTy : s.TypeIs (.ref z) "zip" := ⟨_, hz, rfl⟩
  unfold pyNext
  refine wpAny_bind (wpAny_attempt (wpAny_callSpecial?_slot (name := Str.ofString "__next__") hTy F.slot_zip_next
    (wpAny_call_entry F.slot_zip_next hTy F.entry_zip_next (zT_next_end hh D hz hT hTI h1 h2 hl1 hl2 hend fun h' e hk he => ?_) (F.args_zip_next_1 _))))
  obtain ⟨o, ho, hc⟩ := he
  refine wpAny_bind (wpAny_isInstance (T := "StopIteration") (b := true) ⟨o, ho, hc⟩ isSubtype_stop ?_)
  exact wpAny_pure (hQ _ hk)

end
section
variable {prog : Program} {w : World}
theorem pairArg_zipT (z TI TO i1 i2 l1 l2 : Addr) (D : ZipApart z TI TO i1 i2 l1 l2) (xs ys : Array Value) :
    PairArg prog w "zip" z [z, TI, TO, i1, i2, l1, l2] [z, TO, i1, i2] (min xs.size ys.size) (fun i k v => xs[i]? = some k ∧ ys[i]? = some v)
      (fun h => IsZip h z TI TO .none ∧ IsPair h TI (.ref i1) (.ref i2) ∧ (∃ a b, IsPair h TO a b) ∧ h.IsTupleIter i1 l1 0 ∧ h.IsTupleIter i2 l2 0 ∧ h.IsTuple l1 xs ∧ h.IsTuple l2 ys) where
  type := fun s ok => ⟨_, ok.1, rfl⟩
  notDict := by decide
  keep := fun h h' ok hk => by
    obtain ⟨hz, hTI, ⟨a, b, hTO⟩, h1, h2, hl1, hl2⟩ := ok
    exact ⟨hk _ _ hz, hk _ _ hTI, ⟨a, b, hk _ _ hTO⟩, h1.at fun o e => hk _ o e, h2.at fun o e => hk _ o e, hl1.at fun o e => hk _ o e, hl2.at fun o e => hk _ o e⟩
  there := fun h ok b hb => by
    obtain ⟨hz, hTI, ⟨a, c, hTO⟩, ⟨o1, h1, _⟩, ⟨o2, h2, _⟩, ⟨o3, hl1, _⟩, ⟨o4, hl2, _⟩⟩ := ok
    simp only [List.mem_cons, List.not_mem_nil, or_false] at hb
    rcases hb with rfl | rfl | rfl | rfl | rfl | rfl | rfl
    all_goals first | exact ⟨_, hz⟩ | exact ⟨_, hTI⟩ | exact ⟨_, hTO⟩ | exact ⟨_, h1⟩ | exact ⟨_, h2⟩ | exact ⟨_, hl1⟩ | exact ⟨_, hl2⟩
  sub := fun b hb => by simp at hb ⊢; rcases hb with rfl | rfl | rfl | rfl <;> simp
  noKeys := fun A s Q E hA ok h => getAttrOr_miss_zip ok.1 rfl rfl rfl zip_no_keys (by decide +kernel) hA h
  iter := fun A s d Q E hA ok hd hdf h => by
    obtain ⟨hz, hTI, ⟨a, b, hTO⟩, h1, h2, hl1, hl2⟩ := ok
    simp only [List.mem_cons, List.not_mem_nil, or_false, not_or] at hdf
    obtain ⟨dz, dTI, dTO, di1, di2, dl1, dl2⟩ := hdf
    refine wpAny_pyIter_zip hz (h z [z, TO, i1, i2] (fun i h => IsPair h TI (.ref i1) (.ref i2) ∧ h.IsTupleIter i1 l1 i ∧ h.IsTupleIter i2 l2 i ∧ h.IsTuple l1 xs ∧ h.IsTuple l2 ys ∧
      ((IsZip h z TI TO .none ∧ ∃ a b, IsPair h TO a b) ∨ ∃ T f oT, IsZipHeld h z TI TO T f ∧ h.get? T = some oT ∧ T ≠ z ∧ T ≠ i1 ∧ T ≠ i2 ∧ T ≠ d)) s.heap s.toks ?_
      ⟨hTI, h1, h2, hl1, hl2, .inl ⟨hz, a, b, hTO⟩⟩ (fun _ _ e => e) fun b hb => .inl hb)
    exact {
      off := fun hm => by
        simp only [List.mem_cons, List.not_mem_nil, or_false] at hm
        rcases hm with e | e | e | e
        · exact dz e
        · exact dTO e
        · exact di1 e
        · exact di2 e
      frame := fun i h₁ h₂ st hk => by
        obtain ⟨hTI, h1, h2, hl1, hl2, hz⟩ := st
        refine ⟨hk _ _ (Ne.symm dTI) hTI, h1.at fun o e => hk _ o (Ne.symm di1) e, h2.at fun o e => hk _ o (Ne.symm di2) e, hl1.at fun o e => hk _ o (Ne.symm dl1) e, hl2.at fun o e => hk _ o (Ne.symm dl2) e, ?_⟩
        rcases hz with ⟨hz, a, b, hTO⟩ | ⟨T, f, oT, hz, hT, r1, r2, r3, r4⟩
        · exact .inl ⟨hk _ _ (Ne.symm dz) hz, a, b, hk _ _ (Ne.symm dTO) hTO⟩
        · exact .inr ⟨T, f, oT, hk _ _ (Ne.symm dz) hz, hk _ _ r4 hT, r1, r2, r3, r4⟩
      item := fun i s₁ Q₁ E₁ hi st hds hQ => by
        obtain ⟨hTI, h1, h2, hl1, hl2, hz⟩ := st
        have hix : i < xs.size := Nat.lt_of_lt_of_le hi (Nat.min_le_left ..)
        have hiy : i < ys.size := Nat.lt_of_lt_of_le hi (Nat.min_le_right ..)
        have ex := Array.getElem?_eq_getElem hix
        have ey := Array.getElem?_eq_getElem hiy
        have lt : ∀ {c o}, s₁.heap.get? c = some o → s₁.heap.objs.size ≠ c := fun e => Nat.ne_of_gt (Heap.lt_size e)
        have n1 : s₁.heap.objs.size ≠ i1 := let ⟨_, e, _⟩ := h1; lt e
        have n2 : s₁.heap.objs.size ≠ i2 := let ⟨_, e, _⟩ := h2; lt e
        rcases hz with ⟨hz, a, b, hTO⟩ | ⟨T, f, oT, hz, hT, r1, r2, r3, r4⟩
        · refine RZ.pyNext_zipT_item D hz hTI hTO h1 h2 hl1 hl2 ex ey fun h' a1 a2 a3 a4 a5 a6 hk => ?_
          exact hQ s₁.heap.objs.size _ _ h' s₁.toks ⟨ex, ey⟩ (.inl ⟨_, a5, rfl, _, rfl⟩)
            ⟨hk _ _ D.TIz D.TITO D.TIi1 D.TIi2 hTI, a3, a4, hl1.at fun o e => hk _ o D.l1z D.l1TO D.l1i1 D.l1i2 e, hl2.at fun o e => hk _ o D.l2z D.l2TO D.l2i1 D.l2i2 e,
              .inr ⟨s₁.heap.objs.size, false, _, a1, a5, lt hz, n1, n2, Nat.ne_of_gt hds⟩⟩
            fun c o hc e => hk c o (fun x => hc (by simp [x])) (fun x => hc (by simp [x])) (fun x => hc (by simp [x])) (fun x => hc (by simp [x])) e
        · refine zT_item_held D hz hT hTI h1 h2 hl1 hl2 ex ey fun h' a1 a3 a4 a5 a6 hk => ?_
          exact hQ s₁.heap.objs.size _ _ h' s₁.toks ⟨ex, ey⟩ (.inl ⟨_, a5, rfl, _, rfl⟩)
            ⟨hk _ _ D.TIz D.TIi1 D.TIi2 hTI, a3, a4, hl1.at fun o e => hk _ o D.l1z D.l1i1 D.l1i2 e, hl2.at fun o e => hk _ o D.l2z D.l2i1 D.l2i2 e,
              .inr ⟨T, true, oT, a1, hk _ _ r1 r2 r3 hT, r1, r2, r3, r4⟩⟩
            fun c o hc e => hk c o (fun x => hc (by simp [x])) (fun x => hc (by simp [x])) (fun x => hc (by simp [x])) e
      done := fun s₁ Q₁ E₁ st hQ => by
        obtain ⟨hTI, h1, h2, hl1, hl2, hz⟩ := st
        have hend : xs[min xs.size ys.size]? = none ∨ ys[min xs.size ys.size]? = none := by
          rcases Nat.le_total xs.size ys.size with h | h
          · exact .inl (Array.getElem?_eq_none (by rw [Nat.min_eq_left h]; exact Nat.le_refl _))
          · exact .inr (Array.getElem?_eq_none (by rw [Nat.min_eq_right h]; exact Nat.le_refl _))
        rcases hz with ⟨hz, a, b, hTO⟩ | ⟨T, f, oT, hz, hT, r1, r2, r3, r4⟩
        · exact RZ.pyNext_zipT_end hA D hz hTI hTO h1 h2 hl1 hl2 hend fun h' hk => hQ h' s₁.toks fun c o hc e => hk c o (fun x => hc (by simp [x])) (fun x => hc (by simp [x])) (fun x => hc (by simp [x])) (fun x => hc (by simp [x])) e
        · exact zT_end_held hA D hz hT hTI h1 h2 hl1 hl2 hend fun h' hk => hQ h' s₁.toks fun c o hc e => hk c o (fun x => hc (by simp [x])) (fun x => hc (by simp [x])) (fun x => hc (by simp [x])) e }

end
end Zd
namespace Zd
open PySem PySem.Spec L2
open PyProof.Rows hiding St
/-! ### dict(zip(t, u)) -/
def dictZipF : List PyData → Option PyData
  | [.tuple ds, .tuple es] => (keysK ds).map fun ks => .dict (mergeD [] (ks.zip es))
  | _ => none
theorem zip_paired {K : PySem.W.Frag} {H : Hp} {A : Addr → Prop} : ∀ {ks : List Key} {ys : List V} {es : List PyData}, Dvs K H A ys es → Paired (fun (kv : Key × V) (q : Key × PyData) => kv.1 = q.1 ∧ Dv K H A kv.2 q.2) (ks.zip ys) (ks.zip es)
  | [], _, _, _ => .nil
  | _ :: _, [], [], .nil => .nil
  | k :: ks, y :: ys, e :: es, .cons a q => .cons ⟨rfl, a⟩ (zip_paired q)
theorem zip_kv : ∀ {ks : List Key} {ys : List V} {us : List Value}, Vals ys us → KV (ks.zip ys) (ks.zip us)
  | [], _, _, _ => .nil
  | _ :: _, [], [], .nil => .nil
  | k :: ks, y :: ys, u :: us, .cons a q => .cons ⟨rfl, a⟩ (zip_kv q)
section
variable {X : Cx} {C : Cn} {a b : Expr} {ms : Rd (List PyData)} {p p2 q pos : Pos}
theorem pe_dictZip {ta : TA} (hc : X.calm = true) (hK : X.K = C.K) (hg : Gl X "dict") (hm : X.mg "dict" = none) (hg2 : Gl X "zip") (hm2 : X.mg "zip" = none) (ha : PA X [a, b] ta)
    (he : starEach [a, b] X.env = (false, eval a X.env) :: starEach [b] X.env := by rfl) (hpl : (backTo q (starEach [b] X.env)).any (·.1) = false := by rfl)
    (he2 : starEach [.Call (.Name "zip" p2) [a, b] [] q] X.env = (false, eval (.Call (.Name "zip" p2) [a, b] [] q) X.env) :: starEach [] X.env := by rfl) (hpl2 : (backTo pos (starEach [] X.env)).any (·.1) = false := by rfl) :
    PE X (.Call (.Name "dict" p) [.Call (.Name "zip" p2) [a, b] [] q] [] pos) (tCB (rZnF C dictZipF) ta) := by
  refine ⟨fun pins s σ H Q I h => ?_⟩
  refine wpAny_Call_Name_kw (ld_blt I hg hm bt_dict (PyProof.Rows.callWith_type1 ?_ he2 hpl2) (by decide) (by decide))
  rw [he2]
  show wpAny _ _ (spliced ((false, eval _ X.env) :: backTo pos (starEach [] X.env))) _ _ s
  refine Calls.spliced_cons ?_
  refine Call_ (ld_blt I hg2 hm2 PyProof.Rows.boot_zip (PyProof.Rows.callWith_type1 (thn (ha.run q pins s σ H _ I h) fun us s1 ⟨vs, H1, I1, r1, q1⟩ => ?_) he hpl))
  obtain ⟨A, ds0, dz, trk, ef, bs, hz, k⟩ := q1
  unfold dictZipF at hz
  split at hz
  case h_2 => cases hz
  rename_i ds es
  obtain ⟨ks, hk, rfl⟩ := Option.map_eq_some_iff.mp hz
  obtain ⟨v1, v2, rfl, w1, w2⟩ := b2 bs
  obtain ⟨x, xs, rfl, x1, x2, x3⟩ := w1.tuple
  obtain ⟨y, ys, rfl, y1, y2, y3⟩ := w2.tuple
  rw [keysK_some hk] at x3
  cases dvs_keys x3
  cases r1 with
  | cons r rr =>
    cases rr with
    | cons r' rr =>
      cases rr
      cases r
      cases r'
      rw [← hK] at x1 y1
      obtain ⟨its, rv, p1, z1⟩ := I1.tuple x1
      obtain ⟨its2, rv2, p2, z2⟩ := I1.tuple y1
      obtain ⟨o1, ho1, _⟩ := id p1
      obtain ⟨o2, ho2, _⟩ := id p2
      have l1 : its.length = ks.length := by have := rv.length; simpa using this.symm
      refine RZ.call_zipT (show s1.heap.IsTuple x its.toArray from p1) (show s1.heap.IsTuple y its2.toArray from p2) fun h' hzz hTI hTO h1 h2 hsz hkp => ?_
      refine Calls.spliced_nil ?_
      refine PySem.call_dict_pairs (knd := mixKind X.prog X.w) (kvs := ks.zip its2) (pairArg_zipT (s1.heap.objs.size + 4) (s1.heap.objs.size + 2) (s1.heap.objs.size + 3) s1.heap.objs.size (s1.heap.objs.size + 1) x y (PySem.W.ktu_apart s1.heap.objs.size x y (Heap.lt_size ho1) (Heap.lt_size ho2)) its.toArray its2.toArray) (I1.ok.hd hc)
        ⟨hzz, hTI, ⟨_, _, hTO⟩, h1, h2, Heap.IsTuple.at p1 fun o e => hkp _ o e, Heap.IsTuple.at p2 fun o e => hkp _ o e⟩ ⟨by rw [List.length_zip, ← l1]; simp, fun i key v ⟨e1, e2⟩ => ?_⟩ (by rw [List.length_map] at z1; simp only [List.size_toArray]; rw [l1]; exact Nat.le_trans (Nat.min_le_left _ _) z1) fun h'' tk hd' kk => ?_
      · have e1' : its[i]? = some key := by simpa using e1
        have e2' : its2[i]? = some v := by simpa using e2
        have hi : i < ks.length := by rw [← l1]; exact (List.getElem?_eq_some_iff.mp e1').1
        refine ⟨ks[i], by rw [List.getElem?_zip_eq_some]; exact ⟨List.getElem?_eq_getElem hi, e2'⟩, ?_⟩
        have go : ∀ {ks : List Key} {its : List Value} {i : Nat} {k : Key} {u : Value}, Vals (ks.map kV) its → ks[i]? = some k → its[i]? = some u → RelV (kV k) u := by
          intro ks
          induction ks with
          | nil => intro its i k u _ e; simp at e
          | cons k' ks ih =>
            intro its i k u rr e e'
            rw [List.map_cons] at rr
            cases rr with
            | cons a t =>
              cases i with
              | zero => cases e; cases e'; exact a
              | succ i => exact ih t (by simpa using e) (by simpa using e')
        exact kV_is (go rv (List.getElem?_eq_getElem hi) e1')
      · have keep : ∀ c o, s1.heap.get? c = some o → h''.get? c = some o := fun c o e => kk c o (fun z => by
          have := Heap.lt_size e
          simp only [List.mem_cons, List.not_mem_nil, or_false] at z
          rcases z with z | z | z | z <;> (rw [z] at this; first | exact Nat.lt_irrefl _ this | exact Nat.not_lt.mpr (Nat.le_add_right _ _) this)) (hkp _ _ e)
        have hm : (h'.objs.size == sysModules) = false := beq_eq_false_iff_ne.mpr (by have := I1.big; rw [hsz]; exact Nat.ne_of_gt (Nat.lt_of_lt_of_le this (Nat.le_add_right _ _)))
        have hle : s1.heap.objs.size ≤ h'.objs.size := by rw [hsz]; exact Nat.le_add_right _ _
        have hlen : (mergeK [] (ks.zip ys)).length ≤ sizeLine := by
          refine Nat.le_trans (length_mergeK (ks.zip ys) []) ?_
          rw [List.length_nil, Nat.zero_add, List.length_zip]
          rw [List.length_map] at z1
          exact Nat.le_trans (Nat.min_le_left _ _) z1
        have hn : H1 h'.objs.size = none := I1.hok.fresh hle
        refine ⟨.ref h'.objs.size, upd H1 h'.objs.size (.dK (mergeK [] (ks.zip ys))), I1.laid (t' := tk) keep hle (show ObjOk X.prog X.w _ _ _ (.dK (mergeK [] (ks.zip ys))) from ⟨hlen, hm, merged [] (ks.zip its2), KV.merge (zip_kv rv2) .nil, hd'⟩), rfl, ?_⟩
        refine k _ _ hn (Kept.new hn) ⟨_, ⟨_, upd_same, .inl ⟨_, rfl, rfl⟩⟩, ?_⟩
        exact ((merge_dvk (zip_paired y3) .nil).wide (A' := fun a => A a ∨ a = h'.objs.size) fun a q => q.elim .inl fun z => .inr (by rw [z]; exact hn)).kept (Kept.new hn)
theorem pf_dictZip (hc : X.calm = true) (hK : X.K = C.K) (hg : Gl X "dict") (hm : X.mg "dict" = none) (hg2 : Gl X "zip") (hm2 : X.mg "zip" = none) (ha : PBs X C [a, b] ms)
    (he : starEach [a, b] X.env = (false, eval a X.env) :: starEach [b] X.env := by rfl) (hpl : (backTo q (starEach [b] X.env)).any (·.1) = false := by rfl)
    (he2 : starEach [.Call (.Name "zip" p2) [a, b] [] q] X.env = (false, eval (.Call (.Name "zip" p2) [a, b] [] q) X.env) :: starEach [] X.env := by rfl) (hpl2 : (backTo pos (starEach [] X.env)).any (·.1) = false := by rfl) :
    PF X C (.Call (.Name "dict" p) [.Call (.Name "zip" p2) [a, b] [] q] [] pos) (mCallB dictZipF ms) := by
  obtain ⟨ta, p1, q1⟩ := ha.ex
  exact ⟨_, pe_dictZip hc hK hg hm hg2 hm2 p1 he hpl he2 hpl2, callF_core q1⟩
end
/-! ### both kinds of keys -/
def sortY : List PyData → Option PyData
  | [.dict kvs] => match sortDF [.dict kvs] with
    | some d => some d
    | none => sortTF [.dict kvs]
  | ds => sortF ds
section
variable {X : Cx} {C : Cn}
theorem f_sortY (hK : X.K = C.K) (hc : X.calm = true) (hu : X.A.units + 70 < cLine) : CallR X (.builtin "sorted") (rZnF C sortY) := by
  intro pins s σ H vs us Q I rv h
  obtain ⟨A, ds, dz, trk, ef, bs, hg, k⟩ := h
  unfold sortY at hg
  split at hg
  · split at hg
    · rename_i d hd
      cases hg
      exact f_sortD hc pins s σ H vs us Q I rv ⟨A, _, _, trk, ef, bs, hd, k⟩
    · exact f_sortT hc hK hu pins s σ H vs us Q I rv ⟨A, _, dz, trk, ef, bs, hg, k⟩
  · exact f_sort hK hu pins s σ H vs us Q I rv ⟨A, ds, dz, trk, ef, bs, hg, k⟩
end
end Zd

set_option maxRecDepth 100000
set_option maxHeartbeats 4000000
namespace Zd
open PySem PySem.Spec L2
open PyProof.Rows hiding St
/-! ### the text of the row: its defs by their places -/
abbrev pwZ := PySem.Challenge.pw_claimroots_k59_whole_stores_judged
def topS (i : Nat) : Stmt := pwZ.main.body.getD i (.Pass default)
noncomputable abbrev cst_KEPT : List Str := [(Str.ofString "all"), (Str.ofString "both"), (Str.ofString "claim"), (Str.ofString "come"), (Str.ofString "commit"), (Str.ofString "either"), (Str.ofString "fork"), (Str.ofString "go"), (Str.ofString "if"), (Str.ofString "judge"), (Str.ofString "merge"), (Str.ofString "migrate"), (Str.ofString "need"), (Str.ofString "new"), (Str.ofString "not"), (Str.ofString "old"), (Str.ofString "put"), (Str.ofString "question"), (Str.ofString "row"), (Str.ofString "run"), (Str.ofString "same"), (Str.ofString "some"), (Str.ofString "start"), (Str.ofString "store"), (Str.ofString "take"), (Str.ofString "things"), (Str.ofString "to"), (Str.ofString "undo"), (Str.ofString "yes")]

/-! ### is_name -/
def s_is_name : Stmt := topS 10
theorem sc_is_name : FnScope [(Str.ofString "thing"), (Str.ofString "sign")] [(Str.ofString "thing")] (defScope s_is_name) := ⟨rfl, rfl, rfl, by decide +kernel, rfl, by decide +kernel, by decide +kernel⟩
noncomputable def m_is_name : Sd := (sSeq (sIf (mOr (mNot (mT (mIsi isStr (mBor 0)))) (mOr (mNot (mT (mChain leD leD (Rd.ok (.int 1)) (mCallB lenF (mCons (mBor 0) mNil)) (Rd.ok (.int 8))))) (mT (mUn (inTs cst_KEPT) (mBor 0))))) (sRet (Rd.ok (.bool false))) sNx)
 (sRet (mCallB allF (mCons (mLc (mIt (mBor 0)) (tgN 1) mYes (mOp inD (mBor 1) (Rd.ok (.str (Str.ofString "abcdefghijklmnopqrstuvwxyz")))) [1]) mNil))))
noncomputable def f_is_name : Fd := fnD 2 m_is_name
section
variable {P : Program} {w : World} {K : PySem.W.Frag} {mg : Str → Option Value} {base : Heap} {f : Addr} {fd : FuncData}
theorem ok_is_name (F : Fun K (Str.ofString "is_name") (Str.ofString "is_name") s_is_name f fd) (g_all : mg (Str.ofString "all") = none) (g_isinstance : mg (Str.ofString "isinstance") = none) (g_len : mg (Str.ofString "len") = none) (g_str : mg (Str.ofString "str") = none) (c_KEPT : KTs K mg (Str.ofString "KEPT") cst_KEPT) (c_LETTERS : ∃ u, mg (Str.ofString "LETTERS") = some u ∧ RelV (.str (Str.ofString "abcdefghijklmnopqrstuvwxyz")) u) (c_MOST_LETTERS : ∃ u, mg (Str.ofString "MOST_LETTERS") = some u ∧ RelV (.int 8) u) : FnG P w K mg base CX0 1 f fd [(Str.ofString "thing")] (Prom K mg 1 f_is_name) := by
  refine Fun.z (N := [(Str.ofString "thing"), (Str.ofString "sign")]) (k := 0) (m := m_is_name) F sc_is_name rfl fun cdv A stk s H E B hr hg => ?_
  have hu0 : (A.deeper (envOfC (Str.ofString "is_name") (defScope s_is_name) s.heap.objs.size f cdv)).units < cLine := by have := hr.un; omega
  have hu1 : (A.deeper (envOfC (Str.ofString "is_name") (defScope s_is_name) s.heap.objs.size f cdv)).units + 1 < cLine := by have := hr.un; omega
  have hu64 : (A.deeper (envOfC (Str.ofString "is_name") (defScope s_is_name) s.heap.objs.size f cdv)).units + 64 < cLine := by have := hr.un; omega
  have hu65 : (A.deeper (envOfC (Str.ofString "is_name") (defScope s_is_name) s.heap.objs.size f cdv)).units + 65 < cLine := by have := hr.un; omega
  have hu70 : (A.deeper (envOfC (Str.ofString "is_name") (defScope s_is_name) s.heap.objs.size f cdv)).units + 70 < cLine := by have := hr.un; omega
  have hgu : (A.deeper (envOfC (Str.ofString "is_name") (defScope s_is_name) s.heap.objs.size f cdv)).guards = some [] := hg
  have SC := sc_is_name
  delta m_is_name
  exact (pssd_cons (psd_if (PTs'.of (ptw_or (pt_not' (pt_d (pd_isi kit_str rfl rfl g_isinstance rfl g_str bt_str (pb_bor 0)))) (ptw_or (pt_not' (pt_chain' o_le o_le (PB.of pd_int) (PB.of (pd_callB (f_len rfl) rfl g_len bt_len (pbs_cons (pb_bor 0) pbs_nil))) (PB.of (pd_cI rfl c_MOST_LETTERS)))) (ptw_or1 (pt_inTs rfl hu65 (by decide +kernel) (pb_bor 0) rfl c_KEPT))))) (pssd_one (psd_ret pd_bl)) pssd_nil)
 (pssd_one (psd_ret (pd_callB (f_all rfl) rfl g_all bt_all (pbs_cons (PB.ofF (pf_lc [((Str.ofString "sign"), 1)] rfl SC.nd (pis_sq rfl (PM.B (pb_bor 0))) (blkOk_by (by first | rfl | with_unfolding_all rfl)) (fun _ _ _ _ _ => (pgd_name 1 SC.nd)) (fun _ _ _ _ _ => ptsd_nil) (fun _ _ _ _ _ => (pd_cmp (o_in rfl hu65) (pb_bor 1) (PB.of (pd_cS rfl c_LETTERS)))) (by decide))) pbs_nil)))))
end

/-! ### are_names -/
def s_are_names : Stmt := topS 11
theorem sc_are_names : FnScope [(Str.ofString "thing"), (Str.ofString "most"), (Str.ofString "one")] [(Str.ofString "thing"), (Str.ofString "most")] (defScope s_are_names) := ⟨rfl, rfl, rfl, by decide +kernel, rfl, by decide +kernel, by decide +kernel⟩
noncomputable def m_are_names : Sd := (sRet (mAndV (mIsi isTup (mBor 0)) (mAndV (mOp leD (mCallB lenF (mCons (mBor 0) mNil)) (mBor 1)) (mCallB allF (mCons (mLc (mIt (mBor 0)) (tgN 2) mYes (mCallZ f_is_name (aD (mVar 2) aNil)) [2]) mNil)))))
noncomputable def f_are_names : Fd := fnD 3 m_are_names
section
variable {P : Program} {w : World} {K : PySem.W.Frag} {mg : Str → Option Value} {base : Heap} {f : Addr} {fd : FuncData}
theorem ok_are_names (F : Fun K (Str.ofString "are_names") (Str.ofString "are_names") s_are_names f fd) (g_all : mg (Str.ofString "all") = none) (g_isinstance : mg (Str.ofString "isinstance") = none) (g_len : mg (Str.ofString "len") = none) (g_tuple : mg (Str.ofString "tuple") = none) (k_is_name : Kn P w K mg base 1 (Str.ofString "is_name") 1 f_is_name) : FnG P w K mg base CX0 2 f fd [(Str.ofString "thing"), (Str.ofString "most")] (Prom K mg 2 f_are_names) := by
  refine Fun.z (N := [(Str.ofString "thing"), (Str.ofString "most"), (Str.ofString "one")]) (k := 1) (m := m_are_names) F sc_are_names rfl fun cdv A stk s H E B hr hg => ?_
  have hu0 : (A.deeper (envOfC (Str.ofString "are_names") (defScope s_are_names) s.heap.objs.size f cdv)).units < cLine := by have := hr.un; omega
  have hu1 : (A.deeper (envOfC (Str.ofString "are_names") (defScope s_are_names) s.heap.objs.size f cdv)).units + 1 < cLine := by have := hr.un; omega
  have hu64 : (A.deeper (envOfC (Str.ofString "are_names") (defScope s_are_names) s.heap.objs.size f cdv)).units + 64 < cLine := by have := hr.un; omega
  have hu65 : (A.deeper (envOfC (Str.ofString "are_names") (defScope s_are_names) s.heap.objs.size f cdv)).units + 65 < cLine := by have := hr.un; omega
  have hu70 : (A.deeper (envOfC (Str.ofString "are_names") (defScope s_are_names) s.heap.objs.size f cdv)).units + 70 < cLine := by have := hr.un; omega
  have hgu : (A.deeper (envOfC (Str.ofString "are_names") (defScope s_are_names) s.heap.objs.size f cdv)).guards = some [] := hg
  have SC := sc_are_names
  delta m_are_names
  exact (pssd_one (psd_ret (pd_and (pd_isi kit_tup rfl rfl g_isinstance rfl g_tuple bt_tuple (pb_bor 0)) (pd_and (pd_cmp o_le (PB.of (pd_callB (f_len rfl) rfl g_len bt_len (pbs_cons (pb_bor 0) pbs_nil))) (pb_bor 1)) (pd_one (pd_callB (f_all rfl) rfl g_all bt_all (pbs_cons (PB.ofF (pf_lc [((Str.ofString "one"), 2)] rfl SC.nd (pis_sq rfl (PM.B (pb_bor 0))) (blkOk_by (by first | rfl | with_unfolding_all rfl)) (fun _ _ _ _ _ => (pgd_name 2 SC.nd)) (fun _ _ _ _ _ => ptsd_nil) (fun _ _ _ _ _ => (pd_callZ hr hgu (k_is_name.kn (by decide)) (pas_d (pd_var 2) pas_nil))) (by decide))) pbs_nil)))))))
end

/-! ### are_rising -/
def s_are_rising : Stmt := topS 12
theorem sc_are_rising : FnScope [(Str.ofString "some"), (Str.ofString "at")] [(Str.ofString "some")] (defScope s_are_rising) := ⟨rfl, rfl, rfl, by decide +kernel, rfl, by decide +kernel, by decide +kernel⟩
noncomputable def m_are_rising : Sd := (sRet (mCallB allF (mCons (mLc (mRange1 (mOp subD (mCallB lenF (mCons (mBor 0) mNil)) (Rd.ok (.int 1)))) (tgN 1) mYes (mOp ltD (mOp ixD (mBor 0) (mBor 1)) (mOp ixD (mBor 0) (mOp addD (mBor 1) (Rd.ok (.int 1))))) [1]) mNil)))
noncomputable def f_are_rising : Fd := fnD 2 m_are_rising
section
variable {P : Program} {w : World} {K : PySem.W.Frag} {mg : Str → Option Value} {base : Heap} {f : Addr} {fd : FuncData}
theorem ok_are_rising (F : Fun K (Str.ofString "are_rising") (Str.ofString "are_rising") s_are_rising f fd) (g_all : mg (Str.ofString "all") = none) (g_len : mg (Str.ofString "len") = none) (g_range : mg (Str.ofString "range") = none) : FnG P w K mg base CX0 1 f fd [(Str.ofString "some")] (Prom K mg 1 f_are_rising) := by
  refine Fun.z (N := [(Str.ofString "some"), (Str.ofString "at")]) (k := 0) (m := m_are_rising) F sc_are_rising rfl fun cdv A stk s H E B hr hg => ?_
  have hu0 : (A.deeper (envOfC (Str.ofString "are_rising") (defScope s_are_rising) s.heap.objs.size f cdv)).units < cLine := by have := hr.un; omega
  have hu1 : (A.deeper (envOfC (Str.ofString "are_rising") (defScope s_are_rising) s.heap.objs.size f cdv)).units + 1 < cLine := by have := hr.un; omega
  have hu64 : (A.deeper (envOfC (Str.ofString "are_rising") (defScope s_are_rising) s.heap.objs.size f cdv)).units + 64 < cLine := by have := hr.un; omega
  have hu65 : (A.deeper (envOfC (Str.ofString "are_rising") (defScope s_are_rising) s.heap.objs.size f cdv)).units + 65 < cLine := by have := hr.un; omega
  have hu70 : (A.deeper (envOfC (Str.ofString "are_rising") (defScope s_are_rising) s.heap.objs.size f cdv)).units + 70 < cLine := by have := hr.un; omega
  have hgu : (A.deeper (envOfC (Str.ofString "are_rising") (defScope s_are_rising) s.heap.objs.size f cdv)).guards = some [] := hg
  have SC := sc_are_rising
  delta m_are_rising
  exact (pssd_one (psd_ret (pd_callB (f_all rfl) rfl g_all bt_all (pbs_cons (PB.ofF (pf_lc [((Str.ofString "at"), 1)] rfl SC.nd (pis_range1 rfl g_range (PB.of (pd_bin o_sub (PB.of (pd_callB (f_len rfl) rfl g_len bt_len (pbs_cons (pb_bor 0) pbs_nil))) (PB.of pd_int)))) (blkOk_by (by first | rfl | with_unfolding_all rfl)) (fun _ _ _ _ _ => (pgd_name 1 SC.nd)) (fun _ _ _ _ _ => ptsd_nil) (fun _ _ _ _ _ => (pd_cmp (o_lt rfl hu0) (PB.of (pd_ix rfl hu1 (pb_bor 0) (pb_bor 1))) (PB.of (pd_ix rfl hu1 (pb_bor 0) (PB.of (pd_bin (o_add rfl) (pb_bor 1) (PB.of pd_int))))))) (by decide))) pbs_nil))))
end

/-! ### is_relation -/
def s_is_relation : Stmt := topS 13
theorem sc_is_relation : FnScope [(Str.ofString "sorts"), (Str.ofString "thing"), (Str.ofString "sort")] [(Str.ofString "sorts"), (Str.ofString "thing")] (defScope s_is_relation) := ⟨rfl, rfl, rfl, by decide +kernel, rfl, by decide +kernel, by decide +kernel⟩
noncomputable def m_is_relation : Sd := (sSeq (sIf (mOr (mNot (mT (mIsi isTup (mBor 1)))) (mOr (mT (mOp neD (mCallB lenF (mCons (mBor 1) mNil)) (Rd.ok (.int 2)))) (mNot (mT (mCallZ f_is_name (aD (mOp ixD (mBor 1) (Rd.ok (.int 0))) aNil)))))) (sRet (Rd.ok (.bool false))) sNx)
 (sRet (mAndV (mCallZ f_are_names (aD (mOp ixD (mBor 1) (Rd.ok (.int 1))) (aD (Rd.ok (.int 2)) aNil))) (mAndV (mOp neD (mOp ixD (mBor 1) (Rd.ok (.int 1))) (mTup mNil)) (mCallB allF (mCons (mLc (mIt (mOp ixD (mBor 1) (Rd.ok (.int 1)))) (tgN 2) mYes (mOp inD (mBor 2) (mBor 0)) [2]) mNil))))))
noncomputable def f_is_relation : Fd := fnD 3 m_is_relation
section
variable {P : Program} {w : World} {K : PySem.W.Frag} {mg : Str → Option Value} {base : Heap} {f : Addr} {fd : FuncData}
theorem ok_is_relation (F : Fun K (Str.ofString "is_relation") (Str.ofString "is_relation") s_is_relation f fd) (g_all : mg (Str.ofString "all") = none) (g_isinstance : mg (Str.ofString "isinstance") = none) (g_len : mg (Str.ofString "len") = none) (g_tuple : mg (Str.ofString "tuple") = none) (c_MOST_PLACES : ∃ u, mg (Str.ofString "MOST_PLACES") = some u ∧ RelV (.int 2) u) (k_are_names : Kn P w K mg base 2 (Str.ofString "are_names") 2 f_are_names) (k_is_name : Kn P w K mg base 1 (Str.ofString "is_name") 1 f_is_name) : FnG P w K mg base CX0 3 f fd [(Str.ofString "sorts"), (Str.ofString "thing")] (Prom K mg 2 f_is_relation) := by
  refine Fun.z (N := [(Str.ofString "sorts"), (Str.ofString "thing"), (Str.ofString "sort")]) (k := 2) (m := m_is_relation) F sc_is_relation rfl fun cdv A stk s H E B hr hg => ?_
  have hu0 : (A.deeper (envOfC (Str.ofString "is_relation") (defScope s_is_relation) s.heap.objs.size f cdv)).units < cLine := by have := hr.un; omega
  have hu1 : (A.deeper (envOfC (Str.ofString "is_relation") (defScope s_is_relation) s.heap.objs.size f cdv)).units + 1 < cLine := by have := hr.un; omega
  have hu64 : (A.deeper (envOfC (Str.ofString "is_relation") (defScope s_is_relation) s.heap.objs.size f cdv)).units + 64 < cLine := by have := hr.un; omega
  have hu65 : (A.deeper (envOfC (Str.ofString "is_relation") (defScope s_is_relation) s.heap.objs.size f cdv)).units + 65 < cLine := by have := hr.un; omega
  have hu70 : (A.deeper (envOfC (Str.ofString "is_relation") (defScope s_is_relation) s.heap.objs.size f cdv)).units + 70 < cLine := by have := hr.un; omega
  have hgu : (A.deeper (envOfC (Str.ofString "is_relation") (defScope s_is_relation) s.heap.objs.size f cdv)).guards = some [] := hg
  have SC := sc_is_relation
  delta m_is_relation
  exact (pssd_cons (psd_if (PTs'.of (ptw_or (pt_not' (pt_d (pd_isi kit_tup rfl rfl g_isinstance rfl g_tuple bt_tuple (pb_bor 1)))) (ptw_or (pt_cmp' (o_ne rfl hu64) (PB.of (pd_callB (f_len rfl) rfl g_len bt_len (pbs_cons (pb_bor 1) pbs_nil))) (PB.of pd_int)) (ptw_or1 (pt_not' (pt_d (pd_callZ hr hgu (k_is_name.kn (by decide)) (pas_d (pd_ix rfl hu1 (pb_bor 1) (PB.of pd_int)) pas_nil)))))))) (pssd_one (psd_ret pd_bl)) pssd_nil)
 (pssd_one (psd_ret (pd_and (pd_callZ hr hgu (k_are_names.kn (by decide)) (pas_d (pd_ix rfl hu1 (pb_bor 1) (PB.of pd_int)) (pas_d (pd_cI rfl c_MOST_PLACES) pas_nil))) (pd_and (pd_cmp (o_ne rfl hu64) (PB.of (pd_ix rfl hu1 (pb_bor 1) (PB.of pd_int))) (PB.of (pd_tup pds_nil))) (pd_one (pd_callB (f_all rfl) rfl g_all bt_all (pbs_cons (PB.ofF (pf_lc [((Str.ofString "sort"), 2)] rfl SC.nd (pis_sq rfl (PM.B (PB.of (pd_ix rfl hu1 (pb_bor 1) (PB.of pd_int))))) (blkOk_by (by first | rfl | with_unfolding_all rfl)) (fun _ _ _ _ _ => (pgd_name 2 SC.nd)) (fun _ _ _ _ _ => ptsd_nil) (fun _ _ _ _ _ => (pd_cmp (o_in rfl hu65) (pb_bor 2) (pb_bor 0))) (by decide))) pbs_nil))))))))
end

/-! ### is_schema -/
def s_is_schema : Stmt := topS 14
theorem sc_is_schema : FnScope [(Str.ofString "thing"), (Str.ofString "word"), (Str.ofString "sorts"), (Str.ofString "relations"), (Str.ofString "names"), (Str.ofString "one"), (Str.ofString "name"), (Str.ofString "places")] [(Str.ofString "thing")] (defScope s_is_schema) := ⟨rfl, rfl, rfl, by decide +kernel, rfl, by decide +kernel, by decide +kernel⟩
noncomputable def m_is_schema : Sd := (sSeq (sIf (mOr (mNot (mT (mIsi isTup (mBor 0)))) (mOr (mT (mOp neD (mCallB lenF (mCons (mBor 0) mNil)) (Rd.ok (.int 3)))) (mOr (mNot (mT (mIsi isStr (mOp ixD (mBor 0) (Rd.ok (.int 0)))))) (mT (mOp neD (mOp ixD (mBor 0) (Rd.ok (.int 0))) (Rd.ok (.str (Str.ofString "schema")))))))) (sRet (Rd.ok (.bool false))) sNx)
 (sSeq (sAsg (tgT 3 (tgCons (tgN 1) (tgCons (tgN 2) (tgCons (tgN 3) tgNil)))) (mVar 0))
 (sSeq (sIf (mOr (mNot (mT (mCallZ f_are_names (aD (mVar 2) (aD (Rd.ok (.int 2)) aNil))))) (mOr (mT (mOp eqD (mBor 2) (mTup mNil))) (mOr (mNot (mT (mCallZ f_are_rising (aD (mVar 2) aNil)))) (mNot (mT (mIsi isTup (mBor 3))))))) (sRet (Rd.ok (.bool false))) sNx)
 (sSeq (sIf (mOr (mNot (mT (mChain leD leD (Rd.ok (.int 1)) (mCallB lenF (mCons (mBor 3) mNil)) (Rd.ok (.int 4))))) (mNot (mT (mCallB allF (mCons (mLc (mIt (mBor 3)) (tgN 5) mYes (mCallZ f_is_relation (aD (mVar 2) (aD (mVar 5) aNil))) [5]) mNil))))) (sRet (Rd.ok (.bool false))) sNx)
 (sSeq (sSet 4 (vF (mLc (mIt (mBor 3)) (tgT 2 (tgCons (tgN 6) (tgCons (tgN 7) tgNil))) mYes (mVar 6) [6, 7])))
 (sFrz 4 (sRet (mAndV (mCallZ f_are_rising (aD (mVar 4) aNil)) (mCallB allF (mCons (mLc (mIt (mBor 4)) (tgN 6) mYes (mOp ninD (mBor 6) (mBor 2)) [6]) mNil))))))))))
noncomputable def f_is_schema : Fd := fnD 8 m_is_schema
section
variable {P : Program} {w : World} {K : PySem.W.Frag} {mg : Str → Option Value} {base : Heap} {f : Addr} {fd : FuncData}
theorem ok_is_schema (F : Fun K (Str.ofString "is_schema") (Str.ofString "is_schema") s_is_schema f fd) (g_all : mg (Str.ofString "all") = none) (g_isinstance : mg (Str.ofString "isinstance") = none) (g_len : mg (Str.ofString "len") = none) (g_str : mg (Str.ofString "str") = none) (g_tuple : mg (Str.ofString "tuple") = none) (c_MOST_RELATIONS : ∃ u, mg (Str.ofString "MOST_RELATIONS") = some u ∧ RelV (.int 4) u) (c_MOST_SORTS : ∃ u, mg (Str.ofString "MOST_SORTS") = some u ∧ RelV (.int 2) u) (k_are_names : Kn P w K mg base 2 (Str.ofString "are_names") 2 f_are_names) (k_are_rising : Kn P w K mg base 1 (Str.ofString "are_rising") 1 f_are_rising) (k_is_relation : Kn P w K mg base 3 (Str.ofString "is_relation") 2 f_is_relation) : FnG P w K mg base CX0 4 f fd [(Str.ofString "thing")] (Prom K mg 1 f_is_schema) := by
  refine Fun.z (N := [(Str.ofString "thing"), (Str.ofString "word"), (Str.ofString "sorts"), (Str.ofString "relations"), (Str.ofString "names"), (Str.ofString "one"), (Str.ofString "name"), (Str.ofString "places")]) (k := 3) (m := m_is_schema) F sc_is_schema rfl fun cdv A stk s H E B hr hg => ?_
  have hu0 : (A.deeper (envOfC (Str.ofString "is_schema") (defScope s_is_schema) s.heap.objs.size f cdv)).units < cLine := by have := hr.un; omega
  have hu1 : (A.deeper (envOfC (Str.ofString "is_schema") (defScope s_is_schema) s.heap.objs.size f cdv)).units + 1 < cLine := by have := hr.un; omega
  have hu64 : (A.deeper (envOfC (Str.ofString "is_schema") (defScope s_is_schema) s.heap.objs.size f cdv)).units + 64 < cLine := by have := hr.un; omega
  have hu65 : (A.deeper (envOfC (Str.ofString "is_schema") (defScope s_is_schema) s.heap.objs.size f cdv)).units + 65 < cLine := by have := hr.un; omega
  have hu70 : (A.deeper (envOfC (Str.ofString "is_schema") (defScope s_is_schema) s.heap.objs.size f cdv)).units + 70 < cLine := by have := hr.un; omega
  have hgu : (A.deeper (envOfC (Str.ofString "is_schema") (defScope s_is_schema) s.heap.objs.size f cdv)).guards = some [] := hg
  have SC := sc_is_schema
  delta m_is_schema
  exact (pssd_cons (psd_if (PTs'.of (ptw_or (pt_not' (pt_d (pd_isi kit_tup rfl rfl g_isinstance rfl g_tuple bt_tuple (pb_bor 0)))) (ptw_or (pt_cmp' (o_ne rfl hu64) (PB.of (pd_callB (f_len rfl) rfl g_len bt_len (pbs_cons (pb_bor 0) pbs_nil))) (PB.of pd_int)) (ptw_or (pt_not' (pt_d (pd_isi kit_str rfl rfl g_isinstance rfl g_str bt_str (PB.of (pd_ix rfl hu1 (pb_bor 0) (PB.of pd_int)))))) (ptw_or1 (pt_cmp' (o_ne rfl hu64) (PB.of (pd_ix rfl hu1 (pb_bor 0) (PB.of pd_int))) (PB.of pd_str))))))) (pssd_one (psd_ret pd_bl)) pssd_nil)
 (pssd_cons (psd_asg (pgd_tup rfl rfl (pgsd_cons (pgd_name 1 SC.nd) (pgsd_cons (pgd_name 2 SC.nd) (pgsd_cons (pgd_name 3 SC.nd) pgsd_nil)))) (pd_var 0))
 (pssd_cons (psd_if (PTs'.of (ptw_or (pt_not' (pt_d (pd_callZ hr hgu (k_are_names.kn (by decide)) (pas_d (pd_var 2) (pas_d (pd_cI rfl c_MOST_SORTS) pas_nil))))) (ptw_or (pt_cmp' (o_eq rfl hu64) (pb_bor 2) (PB.of (pd_tup pds_nil))) (ptw_or (pt_not' (pt_d (pd_callZ hr hgu (k_are_rising.kn (by decide)) (pas_d (pd_var 2) pas_nil)))) (ptw_or1 (pt_not' (pt_d (pd_isi kit_tup rfl rfl g_isinstance rfl g_tuple bt_tuple (pb_bor 3))))))))) (pssd_one (psd_ret pd_bl)) pssd_nil)
 (pssd_cons (psd_if (PTs'.of (ptw_or (pt_not' (pt_chain' o_le o_le (PB.of pd_int) (PB.of (pd_callB (f_len rfl) rfl g_len bt_len (pbs_cons (pb_bor 3) pbs_nil))) (PB.of (pd_cI rfl c_MOST_RELATIONS)))) (ptw_or1 (pt_not' (pt_d (pd_callB (f_all rfl) rfl g_all bt_all (pbs_cons (PB.ofF (pf_lc [((Str.ofString "one"), 5)] rfl SC.nd (pis_sq rfl (PM.B (pb_bor 3))) (blkOk_by (by first | rfl | with_unfolding_all rfl)) (fun _ _ _ _ _ => (pgd_name 5 SC.nd)) (fun _ _ _ _ _ => ptsd_nil) (fun _ _ _ _ _ => (pd_callZ hr hgu (k_is_relation.kn (by decide)) (pas_d (pd_var 2) (pas_d (pd_var 5) pas_nil)))) (by decide))) pbs_nil))))))) (pssd_one (psd_ret pd_bl)) pssd_nil)
 (pssd_cons (psd_setLc 4 [((Str.ofString "name"), 6), ((Str.ofString "places"), 7)] rfl SC.nd (pis_sq rfl (PM.B (pb_bor 3))) (blkOk_by (by first | rfl | with_unfolding_all rfl)) (fun _ _ _ _ _ => (pgd_tup rfl rfl (pgsd_cons (pgd_name 6 SC.nd) (pgsd_cons (pgd_name 7 SC.nd) pgsd_nil)))) (fun _ _ _ _ _ => ptsd_nil) (fun _ _ _ _ _ => (pd_var 6)) (by decide))
 (pssd_one (PSd.frz 4 (psd_ret (pd_and (pd_callZ hr hgu (k_are_rising.kn (by decide)) (pas_d (pd_var 4) pas_nil)) (pd_one (pd_callB (f_all rfl) rfl g_all bt_all (pbs_cons (PB.ofF (pf_lc [((Str.ofString "name"), 6)] rfl SC.nd (pis_sq rfl (PM.B (pb_bor 4))) (blkOk_by (by first | rfl | with_unfolding_all rfl)) (fun _ _ _ _ _ => (pgd_name 6 SC.nd)) (fun _ _ _ _ _ => ptsd_nil) (fun _ _ _ _ _ => (pd_cmp (o_nin rfl hu65) (pb_bor 6) (pb_bor 2))) (by decide))) pbs_nil))))))))))))
end

/-! ### need_schema -/
def s_need_schema : Stmt := topS 15
theorem sc_need_schema : FnScope [(Str.ofString "schema")] [(Str.ofString "schema")] (defScope s_need_schema) := ⟨rfl, rfl, rfl, by decide +kernel, rfl, by decide +kernel, by decide +kernel⟩
noncomputable def m_need_schema : Sd := (sIf (mNot (mT (mCallZ f_is_schema (aD (mVar 0) aNil)))) sNo sNx)
noncomputable def f_need_schema : Fd := fnD 1 m_need_schema
section
variable {P : Program} {w : World} {K : PySem.W.Frag} {mg : Str → Option Value} {base : Heap} {f : Addr} {fd : FuncData}
theorem ok_need_schema (F : Fun K (Str.ofString "need_schema") (Str.ofString "need_schema") s_need_schema f fd) (k_is_schema : Kn P w K mg base 4 (Str.ofString "is_schema") 1 f_is_schema) : FnG P w K mg base CX0 5 f fd [(Str.ofString "schema")] (Prom K mg 1 f_need_schema) := by
  refine Fun.z (N := [(Str.ofString "schema")]) (k := 4) (m := m_need_schema) F sc_need_schema rfl fun cdv A stk s H E B hr hg => ?_
  have hu0 : (A.deeper (envOfC (Str.ofString "need_schema") (defScope s_need_schema) s.heap.objs.size f cdv)).units < cLine := by have := hr.un; omega
  have hu1 : (A.deeper (envOfC (Str.ofString "need_schema") (defScope s_need_schema) s.heap.objs.size f cdv)).units + 1 < cLine := by have := hr.un; omega
  have hu64 : (A.deeper (envOfC (Str.ofString "need_schema") (defScope s_need_schema) s.heap.objs.size f cdv)).units + 64 < cLine := by have := hr.un; omega
  have hu65 : (A.deeper (envOfC (Str.ofString "need_schema") (defScope s_need_schema) s.heap.objs.size f cdv)).units + 65 < cLine := by have := hr.un; omega
  have hu70 : (A.deeper (envOfC (Str.ofString "need_schema") (defScope s_need_schema) s.heap.objs.size f cdv)).units + 70 < cLine := by have := hr.un; omega
  have hgu : (A.deeper (envOfC (Str.ofString "need_schema") (defScope s_need_schema) s.heap.objs.size f cdv)).guards = some [] := hg
  have SC := sc_need_schema
  delta m_need_schema
  exact (pssd_one (psd_if (pt_not' (pt_d (pd_callZ hr hgu (k_is_schema.kn (by decide)) (pas_d (pd_var 0) pas_nil)))) (pssd_one psd_never) pssd_nil))
end

/-! ### is_number -/
def s_is_number : Stmt := topS 18
theorem sc_is_number : FnScope [(Str.ofString "thing")] [(Str.ofString "thing")] (defScope s_is_number) := ⟨rfl, rfl, rfl, by decide +kernel, rfl, by decide +kernel, by decide +kernel⟩
noncomputable def m_is_number : Sd := (sRet (mAndV (mIsi isInt (mBor 0)) (mAndV (mNotV (mIsi isBool (mBor 0))) (mChain leD leD (Rd.ok (.int 0)) (mBor 0) (Rd.ok (.int 999))))))
noncomputable def f_is_number : Fd := fnD 1 m_is_number
section
variable {P : Program} {w : World} {K : PySem.W.Frag} {mg : Str → Option Value} {base : Heap} {f : Addr} {fd : FuncData}
theorem ok_is_number (F : Fun K (Str.ofString "is_number") (Str.ofString "is_number") s_is_number f fd) (g_bool : mg (Str.ofString "bool") = none) (g_int : mg (Str.ofString "int") = none) (g_isinstance : mg (Str.ofString "isinstance") = none) (c_MOST_NUMBER : ∃ u, mg (Str.ofString "MOST_NUMBER") = some u ∧ RelV (.int 999) u) : FnG P w K mg base CX0 1 f fd [(Str.ofString "thing")] (Prom K mg 1 f_is_number) := by
  refine Fun.z (N := [(Str.ofString "thing")]) (k := 0) (m := m_is_number) F sc_is_number rfl fun cdv A stk s H E B hr hg => ?_
  have hu0 : (A.deeper (envOfC (Str.ofString "is_number") (defScope s_is_number) s.heap.objs.size f cdv)).units < cLine := by have := hr.un; omega
  have hu1 : (A.deeper (envOfC (Str.ofString "is_number") (defScope s_is_number) s.heap.objs.size f cdv)).units + 1 < cLine := by have := hr.un; omega
  have hu64 : (A.deeper (envOfC (Str.ofString "is_number") (defScope s_is_number) s.heap.objs.size f cdv)).units + 64 < cLine := by have := hr.un; omega
  have hu65 : (A.deeper (envOfC (Str.ofString "is_number") (defScope s_is_number) s.heap.objs.size f cdv)).units + 65 < cLine := by have := hr.un; omega
  have hu70 : (A.deeper (envOfC (Str.ofString "is_number") (defScope s_is_number) s.heap.objs.size f cdv)).units + 70 < cLine := by have := hr.un; omega
  have hgu : (A.deeper (envOfC (Str.ofString "is_number") (defScope s_is_number) s.heap.objs.size f cdv)).guards = some [] := hg
  have SC := sc_is_number
  delta m_is_number
  exact (pssd_one (psd_ret (pd_and (pd_isi kit_int rfl rfl g_isinstance rfl g_int bt_int (pb_bor 0)) (pd_and (pd_not (pd_isi kit_bool rfl rfl g_isinstance rfl g_bool bt_bool (pb_bor 0))) (pd_one (pd_chain o_le o_le (PB.of pd_int) (pb_bor 0) (PB.of (pd_cI rfl c_MOST_NUMBER))))))))
end

/-! ### are_things -/
def s_are_things : Stmt := topS 19
theorem sc_are_things : FnScope [(Str.ofString "thing"), (Str.ofString "one")] [(Str.ofString "thing")] (defScope s_are_things) := ⟨rfl, rfl, rfl, by decide +kernel, rfl, by decide +kernel, by decide +kernel⟩
noncomputable def m_are_things : Sd := (sRet (mAndV (mIsi isTup (mBor 0)) (mAndV (mCallB allF (mCons (mLc (mIt (mBor 0)) (tgN 1) mYes (mCallZ f_is_number (aD (mVar 1) aNil)) [1]) mNil)) (mCallZ f_are_rising (aD (mVar 0) aNil)))))
noncomputable def f_are_things : Fd := fnD 2 m_are_things
section
variable {P : Program} {w : World} {K : PySem.W.Frag} {mg : Str → Option Value} {base : Heap} {f : Addr} {fd : FuncData}
theorem ok_are_things (F : Fun K (Str.ofString "are_things") (Str.ofString "are_things") s_are_things f fd) (g_all : mg (Str.ofString "all") = none) (g_isinstance : mg (Str.ofString "isinstance") = none) (g_tuple : mg (Str.ofString "tuple") = none) (k_are_rising : Kn P w K mg base 1 (Str.ofString "are_rising") 1 f_are_rising) (k_is_number : Kn P w K mg base 1 (Str.ofString "is_number") 1 f_is_number) : FnG P w K mg base CX0 2 f fd [(Str.ofString "thing")] (Prom K mg 1 f_are_things) := by
  refine Fun.z (N := [(Str.ofString "thing"), (Str.ofString "one")]) (k := 1) (m := m_are_things) F sc_are_things rfl fun cdv A stk s H E B hr hg => ?_
  have hu0 : (A.deeper (envOfC (Str.ofString "are_things") (defScope s_are_things) s.heap.objs.size f cdv)).units < cLine := by have := hr.un; omega
  have hu1 : (A.deeper (envOfC (Str.ofString "are_things") (defScope s_are_things) s.heap.objs.size f cdv)).units + 1 < cLine := by have := hr.un; omega
  have hu64 : (A.deeper (envOfC (Str.ofString "are_things") (defScope s_are_things) s.heap.objs.size f cdv)).units + 64 < cLine := by have := hr.un; omega
  have hu65 : (A.deeper (envOfC (Str.ofString "are_things") (defScope s_are_things) s.heap.objs.size f cdv)).units + 65 < cLine := by have := hr.un; omega
  have hu70 : (A.deeper (envOfC (Str.ofString "are_things") (defScope s_are_things) s.heap.objs.size f cdv)).units + 70 < cLine := by have := hr.un; omega
  have hgu : (A.deeper (envOfC (Str.ofString "are_things") (defScope s_are_things) s.heap.objs.size f cdv)).guards = some [] := hg
  have SC := sc_are_things
  delta m_are_things
  exact (pssd_one (psd_ret (pd_and (pd_isi kit_tup rfl rfl g_isinstance rfl g_tuple bt_tuple (pb_bor 0)) (pd_and (pd_callB (f_all rfl) rfl g_all bt_all (pbs_cons (PB.ofF (pf_lc [((Str.ofString "one"), 1)] rfl SC.nd (pis_sq rfl (PM.B (pb_bor 0))) (blkOk_by (by first | rfl | with_unfolding_all rfl)) (fun _ _ _ _ _ => (pgd_name 1 SC.nd)) (fun _ _ _ _ _ => ptsd_nil) (fun _ _ _ _ _ => (pd_callZ hr hgu (k_is_number.kn (by decide)) (pas_d (pd_var 1) pas_nil))) (by decide))) pbs_nil)) (pd_one (pd_callZ hr hgu (k_are_rising.kn (by decide)) (pas_d (pd_var 0) pas_nil)))))))
end

/-! ### is_row_of -/
def s_is_row_of : Stmt := topS 20
theorem sc_is_row_of : FnScope [(Str.ofString "kinds"), (Str.ofString "places"), (Str.ofString "thing"), (Str.ofString "one"), (Str.ofString "sort")] [(Str.ofString "kinds"), (Str.ofString "places"), (Str.ofString "thing")] (defScope s_is_row_of) := ⟨rfl, rfl, rfl, by decide +kernel, rfl, by decide +kernel, by decide +kernel⟩
noncomputable def m_is_row_of : Sd := (sSeq (sIf (mOr (mNot (mT (mIsi isTup (mBor 2)))) (mOr (mT (mOp neD (mCallB lenF (mCons (mBor 2) mNil)) (mCallB lenF (mCons (mBor 1) mNil)))) (mNot (mT (mCallB allF (mCons (mLc (mIt (mBor 2)) (tgN 3) mYes (mCallZ f_is_number (aD (mVar 3) aNil)) [3]) mNil)))))) (sRet (Rd.ok (.bool false))) sNx)
 (sRet (mCallB allF (mCons (mLc (mZip (mBor 1) (mBor 2)) (tgT 2 (tgCons (tgN 4) (tgCons (tgN 3) tgNil))) mYes (mOp inD (mBor 3) (mOp ixD (mBor 0) (mBor 4))) [4, 3]) mNil))))
noncomputable def f_is_row_of : Fd := fnD 5 m_is_row_of
section
variable {P : Program} {w : World} {K : PySem.W.Frag} {mg : Str → Option Value} {base : Heap} {f : Addr} {fd : FuncData}
theorem ok_is_row_of (F : Fun K (Str.ofString "is_row_of") (Str.ofString "is_row_of") s_is_row_of f fd) (g_all : mg (Str.ofString "all") = none) (g_isinstance : mg (Str.ofString "isinstance") = none) (g_len : mg (Str.ofString "len") = none) (g_tuple : mg (Str.ofString "tuple") = none) (g_zip : mg (Str.ofString "zip") = none) (k_is_number : Kn P w K mg base 1 (Str.ofString "is_number") 1 f_is_number) : FnG P w K mg base CX0 2 f fd [(Str.ofString "kinds"), (Str.ofString "places"), (Str.ofString "thing")] (Prom K mg 3 f_is_row_of) := by
  refine Fun.z (N := [(Str.ofString "kinds"), (Str.ofString "places"), (Str.ofString "thing"), (Str.ofString "one"), (Str.ofString "sort")]) (k := 1) (m := m_is_row_of) F sc_is_row_of rfl fun cdv A stk s H E B hr hg => ?_
  have hu0 : (A.deeper (envOfC (Str.ofString "is_row_of") (defScope s_is_row_of) s.heap.objs.size f cdv)).units < cLine := by have := hr.un; omega
  have hu1 : (A.deeper (envOfC (Str.ofString "is_row_of") (defScope s_is_row_of) s.heap.objs.size f cdv)).units + 1 < cLine := by have := hr.un; omega
  have hu64 : (A.deeper (envOfC (Str.ofString "is_row_of") (defScope s_is_row_of) s.heap.objs.size f cdv)).units + 64 < cLine := by have := hr.un; omega
  have hu65 : (A.deeper (envOfC (Str.ofString "is_row_of") (defScope s_is_row_of) s.heap.objs.size f cdv)).units + 65 < cLine := by have := hr.un; omega
  have hu70 : (A.deeper (envOfC (Str.ofString "is_row_of") (defScope s_is_row_of) s.heap.objs.size f cdv)).units + 70 < cLine := by have := hr.un; omega
  have hgu : (A.deeper (envOfC (Str.ofString "is_row_of") (defScope s_is_row_of) s.heap.objs.size f cdv)).guards = some [] := hg
  have SC := sc_is_row_of
  delta m_is_row_of
  exact (pssd_cons (psd_if (PTs'.of (ptw_or (pt_not' (pt_d (pd_isi kit_tup rfl rfl g_isinstance rfl g_tuple bt_tuple (pb_bor 2)))) (ptw_or (pt_cmp' (o_ne rfl hu64) (PB.of (pd_callB (f_len rfl) rfl g_len bt_len (pbs_cons (pb_bor 2) pbs_nil))) (PB.of (pd_callB (f_len rfl) rfl g_len bt_len (pbs_cons (pb_bor 1) pbs_nil)))) (ptw_or1 (pt_not' (pt_d (pd_callB (f_all rfl) rfl g_all bt_all (pbs_cons (PB.ofF (pf_lc [((Str.ofString "one"), 3)] rfl SC.nd (pis_sq rfl (PM.B (pb_bor 2))) (blkOk_by (by first | rfl | with_unfolding_all rfl)) (fun _ _ _ _ _ => (pgd_name 3 SC.nd)) (fun _ _ _ _ _ => ptsd_nil) (fun _ _ _ _ _ => (pd_callZ hr hgu (k_is_number.kn (by decide)) (pas_d (pd_var 3) pas_nil))) (by decide))) pbs_nil)))))))) (pssd_one (psd_ret pd_bl)) pssd_nil)
 (pssd_one (psd_ret (pd_callB (f_all rfl) rfl g_all bt_all (pbs_cons (PB.ofF (pf_lc [((Str.ofString "sort"), 4), ((Str.ofString "one"), 3)] rfl SC.nd (pis_zip rfl rfl g_zip (PM.B (pb_bor 1)) (PM.B (pb_bor 2))) (blkOk_by (by first | rfl | with_unfolding_all rfl)) (fun _ _ _ _ _ => (pgd_tup rfl rfl (pgsd_cons (pgd_name 4 SC.nd) (pgsd_cons (pgd_name 3 SC.nd) pgsd_nil)))) (fun _ _ _ _ _ => ptsd_nil) (fun _ _ _ _ _ => (pd_cmp (o_in rfl hu65) (pb_bor 3) (PB.of (pd_ix rfl hu1 (pb_bor 0) (pb_bor 4))))) (by decide))) pbs_nil)))))
end

/-! ### things_by_sort -/
def s_things_by_sort : Stmt := topS 23
theorem sc_things_by_sort : FnScope [(Str.ofString "schema"), (Str.ofString "store"), (Str.ofString "sort"), (Str.ofString "some"), (Str.ofString "one")] [(Str.ofString "schema"), (Str.ofString "store")] (defScope s_things_by_sort) := ⟨rfl, rfl, rfl, by decide +kernel, rfl, by decide +kernel, by decide +kernel⟩
noncomputable def m_things_by_sort : Sd := (sRet (mDc (mZip (mOp ixD (mBor 0) (Rd.ok (.int 1))) (mOp ixD (mBor 1) (Rd.ok (.int 1)))) (tgT 2 (tgCons (tgN 2) (tgCons (tgN 3) tgNil))) mYes (mVar 2) (mDc (mIt (mBor 3)) (tgN 4) mYes (mVar 4) (Rd.ok (.bool true)) [4]) [2, 3]))
noncomputable def f_things_by_sort : Fd := fnD 5 m_things_by_sort
section
variable {P : Program} {w : World} {K : PySem.W.Frag} {mg : Str → Option Value} {base : Heap} {f : Addr} {fd : FuncData}
theorem ok_things_by_sort (F : Fun K (Str.ofString "things_by_sort") (Str.ofString "things_by_sort") s_things_by_sort f fd) (g_zip : mg (Str.ofString "zip") = none) : FnG P w K mg base CX0 1 f fd [(Str.ofString "schema"), (Str.ofString "store")] (Prom K mg 2 f_things_by_sort) := by
  refine Fun.z (N := [(Str.ofString "schema"), (Str.ofString "store"), (Str.ofString "sort"), (Str.ofString "some"), (Str.ofString "one")]) (k := 0) (m := m_things_by_sort) F sc_things_by_sort rfl fun cdv A stk s H E B hr hg => ?_
  have hu0 : (A.deeper (envOfC (Str.ofString "things_by_sort") (defScope s_things_by_sort) s.heap.objs.size f cdv)).units < cLine := by have := hr.un; omega
  have hu1 : (A.deeper (envOfC (Str.ofString "things_by_sort") (defScope s_things_by_sort) s.heap.objs.size f cdv)).units + 1 < cLine := by have := hr.un; omega
  have hu64 : (A.deeper (envOfC (Str.ofString "things_by_sort") (defScope s_things_by_sort) s.heap.objs.size f cdv)).units + 64 < cLine := by have := hr.un; omega
  have hu65 : (A.deeper (envOfC (Str.ofString "things_by_sort") (defScope s_things_by_sort) s.heap.objs.size f cdv)).units + 65 < cLine := by have := hr.un; omega
  have hu70 : (A.deeper (envOfC (Str.ofString "things_by_sort") (defScope s_things_by_sort) s.heap.objs.size f cdv)).units + 70 < cLine := by have := hr.un; omega
  have hgu : (A.deeper (envOfC (Str.ofString "things_by_sort") (defScope s_things_by_sort) s.heap.objs.size f cdv)).guards = some [] := hg
  have SC := sc_things_by_sort
  delta m_things_by_sort
  exact (pssd_one (psd_ret (PD.of (pf_dc [((Str.ofString "sort"), 2), ((Str.ofString "some"), 3)] hu1 rfl SC.nd (pis_zip rfl rfl g_zip (PM.B (PB.of (pd_ix rfl hu1 (pb_bor 0) (PB.of pd_int)))) (PM.B (PB.of (pd_ix rfl hu1 (pb_bor 1) (PB.of pd_int))))) (blkOk_by (by first | rfl | with_unfolding_all rfl)) (fun _ _ _ _ _ => (pgd_tup rfl rfl (pgsd_cons (pgd_name 2 SC.nd) (pgsd_cons (pgd_name 3 SC.nd) pgsd_nil)))) (fun _ _ _ _ _ => ptsd_nil) (fun _ _ _ _ _ => (pd_var 2)) (fun _ _ _ _ _ => (PD.of (pf_dc [((Str.ofString "one"), 4)] hu1 rfl SC.nd (pis_sq rfl (PM.B (pb_bor 3))) (blkOk_by (by first | rfl | with_unfolding_all rfl)) (fun _ _ _ _ _ => (pgd_name 4 SC.nd)) (fun _ _ _ _ _ => ptsd_nil) (fun _ _ _ _ _ => (pd_var 4)) (fun _ _ _ _ _ => pd_bl) (by decide)))) (by decide)))))
end

/-! ### is_store -/
def s_is_store : Stmt := topS 21
theorem sc_is_store : FnScope [(Str.ofString "schema"), (Str.ofString "thing"), (Str.ofString "word"), (Str.ofString "things"), (Str.ofString "rows"), (Str.ofString "kinds"), (Str.ofString "name"), (Str.ofString "places"), (Str.ofString "own"), (Str.ofString "one"), (Str.ofString "row")] [(Str.ofString "schema"), (Str.ofString "thing")] (defScope s_is_store) := ⟨rfl, rfl, rfl, by decide +kernel, rfl, by decide +kernel, by decide +kernel⟩
noncomputable def m_is_store : Sd := (sSeq (sDrop (mCallZ f_need_schema (aD (mVar 0) aNil)))
 (sSeq (sIf (mOr (mNot (mT (mIsi isTup (mBor 1)))) (mOr (mT (mOp neD (mCallB lenF (mCons (mBor 1) mNil)) (Rd.ok (.int 3)))) (mOr (mNot (mT (mIsi isStr (mOp ixD (mBor 1) (Rd.ok (.int 0)))))) (mT (mOp neD (mOp ixD (mBor 1) (Rd.ok (.int 0))) (Rd.ok (.str (Str.ofString "store")))))))) (sRet (Rd.ok (.bool false))) sNx)
 (sSeq (sAsg (tgT 3 (tgCons (tgN 2) (tgCons (tgN 3) (tgCons (tgN 4) tgNil)))) (mVar 1))
 (sSeq (sIf (mOr (mNot (mT (mIsi isTup (mBor 3)))) (mOr (mT (mOp neD (mCallB lenF (mCons (mBor 3) mNil)) (mCallB lenF (mCons (mOp ixD (mBor 0) (Rd.ok (.int 1))) mNil)))) (mNot (mT (mCallB allF (mCons (mLc (mIt (mBor 3)) (tgN 9) mYes (mCallZ f_are_things (aD (mVar 9) aNil)) [9]) mNil)))))) (sRet (Rd.ok (.bool false))) sNx)
 (sSeq (sIf (mOr (mNot (mT (mIsi isTup (mBor 4)))) (mT (mOp neD (mCallB lenF (mCons (mBor 4) mNil)) (mCallB lenF (mCons (mOp ixD (mBor 0) (Rd.ok (.int 2))) mNil))))) (sRet (Rd.ok (.bool false))) sNx)
 (sSeq (sIf (mNot (mT (mCallB allF (mCons (mLc (mIt (mBor 4)) (tgN 9) mYes (mIsi isTup (mBor 9)) [9]) mNil)))) (sRet (Rd.ok (.bool false))) sNx)
 (sSeq (sSet 5 (vD (mCallZ f_things_by_sort (aD (mVar 0) (aD (mVar 1) aNil)))))
 (sSeq (sFor (mZip (mOp ixD (mBor 0) (Rd.ok (.int 2))) (mVar 4)) (tgT 2 (tgCons (tgT 2 (tgCons (tgN 6) (tgCons (tgN 7) tgNil))) (tgCons (tgN 8) tgNil))) (sIf (mOr (mNot (mT (mCallB allF (mCons (mLc (mIt (mBor 8)) (tgN 10) mYes (mCallZ f_is_row_of (aD (mVar 5) (aD (mVar 7) (aD (mVar 10) aNil)))) [10]) mNil)))) (mNot (mT (mCallZ f_are_rising (aD (mVar 8) aNil))))) (sRet (Rd.ok (.bool false))) sNx))
 (sRet (Rd.ok (.bool true)))))))))))
noncomputable def f_is_store : Fd := fnD 11 m_is_store
section
variable {P : Program} {w : World} {K : PySem.W.Frag} {mg : Str → Option Value} {base : Heap} {f : Addr} {fd : FuncData}
theorem ok_is_store (F : Fun K (Str.ofString "is_store") (Str.ofString "is_store") s_is_store f fd) (g_all : mg (Str.ofString "all") = none) (g_isinstance : mg (Str.ofString "isinstance") = none) (g_len : mg (Str.ofString "len") = none) (g_str : mg (Str.ofString "str") = none) (g_tuple : mg (Str.ofString "tuple") = none) (g_zip : mg (Str.ofString "zip") = none) (k_are_rising : Kn P w K mg base 1 (Str.ofString "are_rising") 1 f_are_rising) (k_are_things : Kn P w K mg base 2 (Str.ofString "are_things") 1 f_are_things) (k_is_row_of : Kn P w K mg base 2 (Str.ofString "is_row_of") 3 f_is_row_of) (k_need_schema : Kn P w K mg base 5 (Str.ofString "need_schema") 1 f_need_schema) (k_things_by_sort : Kn P w K mg base 1 (Str.ofString "things_by_sort") 2 f_things_by_sort) : FnG P w K mg base CX0 6 f fd [(Str.ofString "schema"), (Str.ofString "thing")] (Prom K mg 2 f_is_store) := by
  refine Fun.z (N := [(Str.ofString "schema"), (Str.ofString "thing"), (Str.ofString "word"), (Str.ofString "things"), (Str.ofString "rows"), (Str.ofString "kinds"), (Str.ofString "name"), (Str.ofString "places"), (Str.ofString "own"), (Str.ofString "one"), (Str.ofString "row")]) (k := 5) (m := m_is_store) F sc_is_store rfl fun cdv A stk s H E B hr hg => ?_
  have hu0 : (A.deeper (envOfC (Str.ofString "is_store") (defScope s_is_store) s.heap.objs.size f cdv)).units < cLine := by have := hr.un; omega
  have hu1 : (A.deeper (envOfC (Str.ofString "is_store") (defScope s_is_store) s.heap.objs.size f cdv)).units + 1 < cLine := by have := hr.un; omega
  have hu64 : (A.deeper (envOfC (Str.ofString "is_store") (defScope s_is_store) s.heap.objs.size f cdv)).units + 64 < cLine := by have := hr.un; omega
  have hu65 : (A.deeper (envOfC (Str.ofString "is_store") (defScope s_is_store) s.heap.objs.size f cdv)).units + 65 < cLine := by have := hr.un; omega
  have hu70 : (A.deeper (envOfC (Str.ofString "is_store") (defScope s_is_store) s.heap.objs.size f cdv)).units + 70 < cLine := by have := hr.un; omega
  have hgu : (A.deeper (envOfC (Str.ofString "is_store") (defScope s_is_store) s.heap.objs.size f cdv)).guards = some [] := hg
  have SC := sc_is_store
  delta m_is_store
  exact (pssd_cons (psd_drop (PB.of (pd_callZ hr hgu (k_need_schema.kn (by decide)) (pas_d (pd_var 0) pas_nil))))
 (pssd_cons (psd_if (PTs'.of (ptw_or (pt_not' (pt_d (pd_isi kit_tup rfl rfl g_isinstance rfl g_tuple bt_tuple (pb_bor 1)))) (ptw_or (pt_cmp' (o_ne rfl hu64) (PB.of (pd_callB (f_len rfl) rfl g_len bt_len (pbs_cons (pb_bor 1) pbs_nil))) (PB.of pd_int)) (ptw_or (pt_not' (pt_d (pd_isi kit_str rfl rfl g_isinstance rfl g_str bt_str (PB.of (pd_ix rfl hu1 (pb_bor 1) (PB.of pd_int)))))) (ptw_or1 (pt_cmp' (o_ne rfl hu64) (PB.of (pd_ix rfl hu1 (pb_bor 1) (PB.of pd_int))) (PB.of pd_str))))))) (pssd_one (psd_ret pd_bl)) pssd_nil)
 (pssd_cons (psd_asg (pgd_tup rfl rfl (pgsd_cons (pgd_name 2 SC.nd) (pgsd_cons (pgd_name 3 SC.nd) (pgsd_cons (pgd_name 4 SC.nd) pgsd_nil)))) (pd_var 1))
 (pssd_cons (psd_if (PTs'.of (ptw_or (pt_not' (pt_d (pd_isi kit_tup rfl rfl g_isinstance rfl g_tuple bt_tuple (pb_bor 3)))) (ptw_or (pt_cmp' (o_ne rfl hu64) (PB.of (pd_callB (f_len rfl) rfl g_len bt_len (pbs_cons (pb_bor 3) pbs_nil))) (PB.of (pd_callB (f_len rfl) rfl g_len bt_len (pbs_cons (PB.of (pd_ix rfl hu1 (pb_bor 0) (PB.of pd_int))) pbs_nil)))) (ptw_or1 (pt_not' (pt_d (pd_callB (f_all rfl) rfl g_all bt_all (pbs_cons (PB.ofF (pf_lc [((Str.ofString "one"), 9)] rfl SC.nd (pis_sq rfl (PM.B (pb_bor 3))) (blkOk_by (by first | rfl | with_unfolding_all rfl)) (fun _ _ _ _ _ => (pgd_name 9 SC.nd)) (fun _ _ _ _ _ => ptsd_nil) (fun _ _ _ _ _ => (pd_callZ hr hgu (k_are_things.kn (by decide)) (pas_d (pd_var 9) pas_nil))) (by decide))) pbs_nil)))))))) (pssd_one (psd_ret pd_bl)) pssd_nil)
 (pssd_cons (psd_if (PTs'.of (ptw_or (pt_not' (pt_d (pd_isi kit_tup rfl rfl g_isinstance rfl g_tuple bt_tuple (pb_bor 4)))) (ptw_or1 (pt_cmp' (o_ne rfl hu64) (PB.of (pd_callB (f_len rfl) rfl g_len bt_len (pbs_cons (pb_bor 4) pbs_nil))) (PB.of (pd_callB (f_len rfl) rfl g_len bt_len (pbs_cons (PB.of (pd_ix rfl hu1 (pb_bor 0) (PB.of pd_int))) pbs_nil))))))) (pssd_one (psd_ret pd_bl)) pssd_nil)
 (pssd_cons (psd_if (pt_not' (pt_d (pd_callB (f_all rfl) rfl g_all bt_all (pbs_cons (PB.ofF (pf_lc [((Str.ofString "one"), 9)] rfl SC.nd (pis_sq rfl (PM.B (pb_bor 4))) (blkOk_by (by first | rfl | with_unfolding_all rfl)) (fun _ _ _ _ _ => (pgd_name 9 SC.nd)) (fun _ _ _ _ _ => ptsd_nil) (fun _ _ _ _ _ => (pd_isi kit_tup rfl rfl g_isinstance rfl g_tuple bt_tuple (pb_bor 9))) (by decide))) pbs_nil)))) (pssd_one (psd_ret pd_bl)) pssd_nil)
 (pssd_cons (psd_set 5 SC.nd (PV.D (pd_callZ hr hgu (k_things_by_sort.kn (by decide)) (pas_d (pd_var 0) (pas_d (pd_var 1) pas_nil)))))
 (pssd_cons (psd_for PassesOwn.never rfl (pis_zip rfl rfl g_zip (PM.D (pd_ix rfl hu1 (pb_bor 0) (PB.of pd_int))) (PM.D (pd_var 4))) (pgd_tup rfl rfl (pgsd_cons (pgd_tup rfl rfl (pgsd_cons (pgd_name 6 SC.nd) (pgsd_cons (pgd_name 7 SC.nd) pgsd_nil))) (pgsd_cons (pgd_name 8 SC.nd) pgsd_nil))) (pssd_one (psd_if (PTs'.of (ptw_or (pt_not' (pt_d (pd_callB (f_all rfl) rfl g_all bt_all (pbs_cons (PB.ofF (pf_lc [((Str.ofString "row"), 10)] rfl SC.nd (pis_sq rfl (PM.B (pb_bor 8))) (blkOk_by (by first | rfl | with_unfolding_all rfl)) (fun _ _ _ _ _ => (pgd_name 10 SC.nd)) (fun _ _ _ _ _ => ptsd_nil) (fun _ _ _ _ _ => (pd_callZ hr hgu (k_is_row_of.kn (by decide)) (pas_d (pd_var 5) (pas_d (pd_var 7) (pas_d (pd_var 10) pas_nil))))) (by decide))) pbs_nil)))) (ptw_or1 (pt_not' (pt_d (pd_callZ hr hgu (k_are_rising.kn (by decide)) (pas_d (pd_var 8) pas_nil))))))) (pssd_one (psd_ret pd_bl)) pssd_nil)))
 (pssd_one (psd_ret pd_bl))))))))))
end

/-! ### empty_store -/
def s_empty_store : Stmt := topS 22
theorem sc_empty_store : FnScope [(Str.ofString "schema")] [(Str.ofString "schema")] (defScope s_empty_store) := ⟨rfl, rfl, rfl, by decide +kernel, rfl, by decide +kernel, by decide +kernel⟩
noncomputable def m_empty_store : Sd := (sSeq (sDrop (mCallZ f_need_schema (aD (mVar 0) aNil)))
 (sRet (mTup (mCons (Rd.ok (.str (Str.ofString "store"))) (mCons (mOp mulXD (mTup (mCons (mTup mNil) mNil)) (mCallB lenF (mCons (mOp ixD (mBor 0) (Rd.ok (.int 1))) mNil))) (mCons (mOp mulXD (mTup (mCons (mTup mNil) mNil)) (mCallB lenF (mCons (mOp ixD (mBor 0) (Rd.ok (.int 2))) mNil))) mNil))))))
noncomputable def f_empty_store : Fd := fnD 1 m_empty_store
section
variable {P : Program} {w : World} {K : PySem.W.Frag} {mg : Str → Option Value} {base : Heap} {f : Addr} {fd : FuncData}
theorem ok_empty_store (F : Fun K (Str.ofString "empty_store") (Str.ofString "empty_store") s_empty_store f fd) (g_len : mg (Str.ofString "len") = none) (k_need_schema : Kn P w K mg base 5 (Str.ofString "need_schema") 1 f_need_schema) : FnG P w K mg base CX0 6 f fd [(Str.ofString "schema")] (Prom K mg 1 f_empty_store) := by
  refine Fun.z (N := [(Str.ofString "schema")]) (k := 5) (m := m_empty_store) F sc_empty_store rfl fun cdv A stk s H E B hr hg => ?_
  have hu0 : (A.deeper (envOfC (Str.ofString "empty_store") (defScope s_empty_store) s.heap.objs.size f cdv)).units < cLine := by have := hr.un; omega
  have hu1 : (A.deeper (envOfC (Str.ofString "empty_store") (defScope s_empty_store) s.heap.objs.size f cdv)).units + 1 < cLine := by have := hr.un; omega
  have hu64 : (A.deeper (envOfC (Str.ofString "empty_store") (defScope s_empty_store) s.heap.objs.size f cdv)).units + 64 < cLine := by have := hr.un; omega
  have hu65 : (A.deeper (envOfC (Str.ofString "empty_store") (defScope s_empty_store) s.heap.objs.size f cdv)).units + 65 < cLine := by have := hr.un; omega
  have hu70 : (A.deeper (envOfC (Str.ofString "empty_store") (defScope s_empty_store) s.heap.objs.size f cdv)).units + 70 < cLine := by have := hr.un; omega
  have hgu : (A.deeper (envOfC (Str.ofString "empty_store") (defScope s_empty_store) s.heap.objs.size f cdv)).guards = some [] := hg
  have SC := sc_empty_store
  delta m_empty_store
  exact (pssd_cons (psd_drop (PB.of (pd_callZ hr hgu (k_need_schema.kn (by decide)) (pas_d (pd_var 0) pas_nil))))
 (pssd_one (psd_ret (pd_tup (pds_cons pd_str (pds_cons (pd_bin (o_mulX rfl) (PB.of (pd_tup (pds_cons (pd_tup pds_nil) pds_nil))) (PB.of (pd_callB (f_len rfl) rfl g_len bt_len (pbs_cons (PB.of (pd_ix rfl hu1 (pb_bor 0) (PB.of pd_int))) pbs_nil)))) (pds_cons (pd_bin (o_mulX rfl) (PB.of (pd_tup (pds_cons (pd_tup pds_nil) pds_nil))) (PB.of (pd_callB (f_len rfl) rfl g_len bt_len (pbs_cons (PB.of (pd_ix rfl hu1 (pb_bor 0) (PB.of pd_int))) pbs_nil)))) pds_nil)))))))
end

/-! ### _law_begun -/
def s_law_begun : Stmt := topS 25
theorem sc_law_begun : FnScope [(Str.ofString "script"), (Str.ofString "great"), (Str.ofString "cell")] [(Str.ofString "script")] (defScope s_law_begun) := ⟨rfl, rfl, rfl, by decide +kernel, rfl, by decide +kernel, by decide +kernel⟩
section
variable {P : Program} {w : World} {K : PySem.W.Frag} {mg : Str → Option Value} {base : Heap} {f : Addr} {fd : FuncData}
theorem ok_law_begun (F : Fun K (Str.ofString "_law_begun") (Str.ofString "_law_begun") s_law_begun f fd) (g_abs : mg (Str.ofString "abs") = none) : FnG P w K mg base CX0 1 f fd [(Str.ofString "script")] (spBegun K) := by
  refine begun_z F sc_law_begun rfl rfl fun cdv A stk s H E => ⟨?_, pv 1, ?_⟩
  · have SC := sc_law_begun
    delta mBeg1
    exact (psd_setLc 1 [((Str.ofString "cell"), 2)] rfl SC.nd (pis_scr 0 rfl) (blkOk_by (by first | rfl | with_unfolding_all rfl)) (fun _ _ _ _ _ => (pgd_name 2 SC.nd)) (fun _ _ _ _ _ => (ptsd_one (pt_cmp' o_ge (PB.of (pd_callB f_abs rfl g_abs bt_abs (pbs_cons (pb_bor 2) pbs_nil))) (PB.of (pd_bin o_pow (PB.of pd_int) (PB.of pd_int)))))) (fun _ _ _ _ _ => (pd_bin o_sub (PB.of (pd_callB f_abs rfl g_abs bt_abs (pbs_cons (pb_bor 2) pbs_nil))) (PB.of (pd_bin o_pow (PB.of pd_int) (PB.of pd_int))))) (by decide))
  · have SC := sc_law_begun
    delta mBeg2
    exact (pf_lc [((Str.ofString "cell"), 2)] rfl SC.nd (pis_scr 0 rfl) (blkOk_by (by first | rfl | with_unfolding_all rfl)) (fun _ _ _ _ _ => (pgd_name 2 SC.nd)) (fun _ _ _ _ _ => ptsd_nil) (fun _ _ _ _ _ => (pd_callB f_abs rfl g_abs bt_abs (pbs_cons (pb_bor 2) pbs_nil))) (by decide))
end

/-! ### _law_mixed -/
def s_law_mixed : Stmt := topS 26
theorem sc_law_mixed : FnScope [(Str.ofString "state"), (Str.ofString "turn"), (Str.ofString "found"), (Str.ofString "prime"), (Str.ofString "blend"), (Str.ofString "cell")] [(Str.ofString "state")] (defScope s_law_mixed) := ⟨rfl, rfl, rfl, by decide +kernel, rfl, by decide +kernel, by decide +kernel⟩
noncomputable abbrev m_law_mixed : Sd := mMixed 2147483629 2147483587 2147483579 2147483563
noncomputable abbrev f_law_mixed : Fd := fnD 6 m_law_mixed
section
variable {P : Program} {w : World} {K : PySem.W.Frag} {mg : Str → Option Value} {base : Heap} {f : Addr} {fd : FuncData}
theorem ok_law_mixed (F : Fun K (Str.ofString "_law_mixed") (Str.ofString "_law_mixed") s_law_mixed f fd) (g_int : mg (Str.ofString "int") = none) : FnG P w K mg base CX0 1 f fd [(Str.ofString "state")] (Prom K mg 1 f_law_mixed) := by
  refine Fun.z (N := [(Str.ofString "state"), (Str.ofString "turn"), (Str.ofString "found"), (Str.ofString "prime"), (Str.ofString "blend"), (Str.ofString "cell")]) (k := 0) (m := m_law_mixed) F sc_law_mixed rfl fun cdv A stk s H E B hr hg => ?_
  have hu0 : (A.deeper (envOfC (Str.ofString "_law_mixed") (defScope s_law_mixed) s.heap.objs.size f cdv)).units < cLine := by have := hr.un; omega
  have hu1 : (A.deeper (envOfC (Str.ofString "_law_mixed") (defScope s_law_mixed) s.heap.objs.size f cdv)).units + 1 < cLine := by have := hr.un; omega
  have hu64 : (A.deeper (envOfC (Str.ofString "_law_mixed") (defScope s_law_mixed) s.heap.objs.size f cdv)).units + 64 < cLine := by have := hr.un; omega
  have hu65 : (A.deeper (envOfC (Str.ofString "_law_mixed") (defScope s_law_mixed) s.heap.objs.size f cdv)).units + 65 < cLine := by have := hr.un; omega
  have hu70 : (A.deeper (envOfC (Str.ofString "_law_mixed") (defScope s_law_mixed) s.heap.objs.size f cdv)).units + 70 < cLine := by have := hr.un; omega
  have hgu : (A.deeper (envOfC (Str.ofString "_law_mixed") (defScope s_law_mixed) s.heap.objs.size f cdv)).guards = some [] := hg
  have SC := sc_law_mixed
  delta m_law_mixed mMixed
  exact (pssd_cons (psd_par 1 2 rfl SC.nd (PV.D (pd_bin (o_add rfl) (PB.of (pd_stT 0 hu1)) (PB.of pd_int))) (PV.D pd_int) (by decide))
 (pssd_cons (psd_stT 0 hu1 (pd_var 1))
 (pssd_cons (psd_for PassesOwn.never rfl (pis_sq rfl (PM.D (PD.of (pf_lst (pds_cons pd_int (pds_cons pd_int (pds_cons pd_int (pds_cons pd_int pds_nil)))))))) (pgd_name 3 SC.nd) (pssd_cons (psd_set 4 SC.nd (PV.D (pd_bin (o_add rfl) (PB.of (pd_bin o_mul (PB.of pd_int) (pb_bor 1))) (PB.of (pd_bin o_fdiv (pb_bor 3) (PB.of pd_int))))))
 (pssd_cons (psd_cells 0 PassesOwn.never rfl hu1 (pgd_name 5 SC.nd) (pssd_one (psd_set 4 SC.nd (PV.D (pd_bin o_mod (PB.of (pd_callTy f_int rfl g_int bt_int (pbs_cons (PB.of (pd_bin (o_add rfl) (PB.of (pd_bin (o_add rfl) (PB.of (pd_bin o_mul (pb_bor 4) (PB.of pd_int))) (pb_bor 5))) (pb_bor 1))) pbs_nil))) (pb_bor 3))))))
 (pssd_one (psd_set 2 SC.nd (PV.D (pd_bin (o_add rfl) (PB.of (pd_bin o_mul (pb_bor 2) (PB.of pd_int))) (PB.of (pd_bin o_mod (PB.of (pd_callTy f_int rfl g_int bt_int (pbs_cons (PB.of (pd_bin o_pow (pb_bor 4) (PB.of pd_int))) pbs_nil))) (pb_bor 3))))))))))
 (pssd_one (psd_ret (pd_var 2))))))
end

/-! ### _law_draw -/
def s_law_draw : Stmt := topS 27
theorem sc_law_draw : FnScope [(Str.ofString "state"), (Str.ofString "room"), (Str.ofString "found")] [(Str.ofString "state"), (Str.ofString "room")] (defScope s_law_draw) := ⟨rfl, rfl, rfl, by decide +kernel, rfl, by decide +kernel, by decide +kernel⟩
noncomputable abbrev m_law_draw : Sd := mDraw f_law_mixed
noncomputable abbrev f_law_draw : Fd := fnD 3 m_law_draw
section
variable {P : Program} {w : World} {K : PySem.W.Frag} {mg : Str → Option Value} {base : Heap} {f : Addr} {fd : FuncData}
theorem ok_law_draw (F : Fun K (Str.ofString "_law_draw") (Str.ofString "_law_draw") s_law_draw f fd) (g_int : mg (Str.ofString "int") = none) (k_law_mixed : Kn P w K mg base 1 (Str.ofString "_law_mixed") 1 f_law_mixed) : FnG P w K mg base CX0 2 f fd [(Str.ofString "state"), (Str.ofString "room")] (Prom K mg 2 f_law_draw) := by
  refine Fun.z (N := [(Str.ofString "state"), (Str.ofString "room"), (Str.ofString "found")]) (k := 1) (m := m_law_draw) F sc_law_draw rfl fun cdv A stk s H E B hr hg => ?_
  have hu0 : (A.deeper (envOfC (Str.ofString "_law_draw") (defScope s_law_draw) s.heap.objs.size f cdv)).units < cLine := by have := hr.un; omega
  have hu1 : (A.deeper (envOfC (Str.ofString "_law_draw") (defScope s_law_draw) s.heap.objs.size f cdv)).units + 1 < cLine := by have := hr.un; omega
  have hu64 : (A.deeper (envOfC (Str.ofString "_law_draw") (defScope s_law_draw) s.heap.objs.size f cdv)).units + 64 < cLine := by have := hr.un; omega
  have hu65 : (A.deeper (envOfC (Str.ofString "_law_draw") (defScope s_law_draw) s.heap.objs.size f cdv)).units + 65 < cLine := by have := hr.un; omega
  have hu70 : (A.deeper (envOfC (Str.ofString "_law_draw") (defScope s_law_draw) s.heap.objs.size f cdv)).units + 70 < cLine := by have := hr.un; omega
  have hgu : (A.deeper (envOfC (Str.ofString "_law_draw") (defScope s_law_draw) s.heap.objs.size f cdv)).guards = some [] := hg
  have SC := sc_law_draw
  delta m_law_draw mDraw
  exact (pssd_cons (psd_if (pt_cmp' (o_eq rfl hu64) (PB.of (pd_stR 0 hu1)) (PB.of pd_int)) (pssd_one (psd_stR 0 hu1 (pd_if (pt_gr 0 rfl hu64) (pd_pop0 0 hu1) (pd_callZ hr hgu (k_law_mixed.kn (by decide)) (pas_st 0 pas_nil))))) pssd_nil)
 (pssd_cons (psd_set 2 SC.nd (PV.D (pd_bin o_mod (PB.of (pd_callTy f_int rfl g_int bt_int (pbs_cons (PB.of (pd_stR 0 hu1)) pbs_nil))) (pb_bor 1))))
 (pssd_cons (psd_stR 0 hu1 (pd_bin o_fdiv (PB.of (pd_stR 0 hu1)) (pb_bor 1)))
 (pssd_one (psd_ret (pd_var 2))))))
end

/-! ### _law_pick -/
def s_law_pick : Stmt := topS 28
theorem sc_law_pick : FnScope [(Str.ofString "state"), (Str.ofString "some")] [(Str.ofString "state"), (Str.ofString "some")] (defScope s_law_pick) := ⟨rfl, rfl, rfl, by decide +kernel, rfl, by decide +kernel, by decide +kernel⟩
noncomputable def m_law_pick : Sd := (sRet (mOp ixD (mBor 1) (mCallZ f_law_draw (aSt 0 (aD (mCallB lenF (mCons (mBor 1) mNil)) aNil)))))
noncomputable def f_law_pick : Fd := fnD 2 m_law_pick
section
variable {P : Program} {w : World} {K : PySem.W.Frag} {mg : Str → Option Value} {base : Heap} {f : Addr} {fd : FuncData}
theorem ok_law_pick (F : Fun K (Str.ofString "_law_pick") (Str.ofString "_law_pick") s_law_pick f fd) (g_len : mg (Str.ofString "len") = none) (k_law_draw : Kn P w K mg base 2 (Str.ofString "_law_draw") 2 f_law_draw) : FnG P w K mg base CX0 3 f fd [(Str.ofString "state"), (Str.ofString "some")] (Prom K mg 2 f_law_pick) := by
  refine Fun.z (N := [(Str.ofString "state"), (Str.ofString "some")]) (k := 2) (m := m_law_pick) F sc_law_pick rfl fun cdv A stk s H E B hr hg => ?_
  have hu0 : (A.deeper (envOfC (Str.ofString "_law_pick") (defScope s_law_pick) s.heap.objs.size f cdv)).units < cLine := by have := hr.un; omega
  have hu1 : (A.deeper (envOfC (Str.ofString "_law_pick") (defScope s_law_pick) s.heap.objs.size f cdv)).units + 1 < cLine := by have := hr.un; omega
  have hu64 : (A.deeper (envOfC (Str.ofString "_law_pick") (defScope s_law_pick) s.heap.objs.size f cdv)).units + 64 < cLine := by have := hr.un; omega
  have hu65 : (A.deeper (envOfC (Str.ofString "_law_pick") (defScope s_law_pick) s.heap.objs.size f cdv)).units + 65 < cLine := by have := hr.un; omega
  have hu70 : (A.deeper (envOfC (Str.ofString "_law_pick") (defScope s_law_pick) s.heap.objs.size f cdv)).units + 70 < cLine := by have := hr.un; omega
  have hgu : (A.deeper (envOfC (Str.ofString "_law_pick") (defScope s_law_pick) s.heap.objs.size f cdv)).guards = some [] := hg
  have SC := sc_law_pick
  delta m_law_pick
  exact (pssd_one (psd_ret (pd_ix rfl hu1 (pb_bor 1) (PB.of (pd_callZ hr hgu (k_law_draw.kn (by decide)) (pas_st 0 (pas_d (pd_callB (f_len rfl) rfl g_len bt_len (pbs_cons (pb_bor 1) pbs_nil)) pas_nil)))))))
end

/-! ### _law_shuffled -/
def s_law_shuffled : Stmt := topS 29
theorem sc_law_shuffled : FnScope [(Str.ofString "state"), (Str.ofString "some"), (Str.ofString "left"), (Str.ofString "found")] [(Str.ofString "state"), (Str.ofString "some")] (defScope s_law_shuffled) := ⟨rfl, rfl, rfl, by decide +kernel, rfl, by decide +kernel, by decide +kernel⟩
noncomputable def m_law_shuffled : Sd := (sSeq (sPar 2 3 (vF (mCallB lstF (mCons (mBor 1) mNil))) (vF (mLst mNil)))
 (sSeq (sWh (mT (mOp neD (mBor 2) (mLst mNil))) (sAppPop 3 2 (mCallZ f_law_draw (aSt 0 (aD (mCallB lenF (mCons (mBor 2) mNil)) aNil)))))
 (sFrz 3 (sRet (mVar 3)))))
noncomputable def f_law_shuffled : Fd := fnD 4 m_law_shuffled
section
variable {P : Program} {w : World} {K : PySem.W.Frag} {mg : Str → Option Value} {base : Heap} {f : Addr} {fd : FuncData}
theorem ok_law_shuffled (F : Fun K (Str.ofString "_law_shuffled") (Str.ofString "_law_shuffled") s_law_shuffled f fd) (g_len : mg (Str.ofString "len") = none) (g_list : mg (Str.ofString "list") = none) (k_law_draw : Kn P w K mg base 2 (Str.ofString "_law_draw") 2 f_law_draw) : FnG P w K mg base CX0 3 f fd [(Str.ofString "state"), (Str.ofString "some")] (Prom K mg 2 f_law_shuffled) := by
  refine Fun.z (N := [(Str.ofString "state"), (Str.ofString "some"), (Str.ofString "left"), (Str.ofString "found")]) (k := 2) (m := m_law_shuffled) F sc_law_shuffled rfl fun cdv A stk s H E B hr hg => ?_
  have hu0 : (A.deeper (envOfC (Str.ofString "_law_shuffled") (defScope s_law_shuffled) s.heap.objs.size f cdv)).units < cLine := by have := hr.un; omega
  have hu1 : (A.deeper (envOfC (Str.ofString "_law_shuffled") (defScope s_law_shuffled) s.heap.objs.size f cdv)).units + 1 < cLine := by have := hr.un; omega
  have hu64 : (A.deeper (envOfC (Str.ofString "_law_shuffled") (defScope s_law_shuffled) s.heap.objs.size f cdv)).units + 64 < cLine := by have := hr.un; omega
  have hu65 : (A.deeper (envOfC (Str.ofString "_law_shuffled") (defScope s_law_shuffled) s.heap.objs.size f cdv)).units + 65 < cLine := by have := hr.un; omega
  have hu70 : (A.deeper (envOfC (Str.ofString "_law_shuffled") (defScope s_law_shuffled) s.heap.objs.size f cdv)).units + 70 < cLine := by have := hr.un; omega
  have hgu : (A.deeper (envOfC (Str.ofString "_law_shuffled") (defScope s_law_shuffled) s.heap.objs.size f cdv)).guards = some [] := hg
  have SC := sc_law_shuffled
  delta m_law_shuffled
  exact (pssd_cons (psd_par 2 3 rfl SC.nd (PV.F (pf_callTy (f_lst rfl rfl) rfl g_list bt_list (pbs_cons (pb_bor 1) pbs_nil))) (PV.F (pf_lst pds_nil)) (by decide))
 (pssd_cons (psd_wh PassesOwn.never (pt_cmp' (o_ne rfl hu64) (pb_bor 2) (PB.ofF (pf_lst pds_nil))) (pssd_one (psd_appPop 3 2 (PB.of (pd_callZ hr hgu (k_law_draw.kn (by decide)) (pas_st 0 (pas_d (pd_callB (f_len rfl) rfl g_len bt_len (pbs_cons (pb_bor 2) pbs_nil)) pas_nil)))))))
 (pssd_one (PSd.frz 3 (psd_ret (pd_var 3))))))
end

/-! ### _law_plain -/
def s_law_plain : Stmt := topS 30
theorem sc_law_plain : FnScope [(Str.ofString "value"), (Str.ofString "one")] [(Str.ofString "value")] (defScope s_law_plain) := ⟨rfl, rfl, rfl, by decide +kernel, rfl, by decide +kernel, by decide +kernel⟩
noncomputable abbrev f_law_plain : Fd := plainF 6
section
variable {P : Program} {w : World} {K : PySem.W.Frag} {mg : Str → Option Value} {base : Heap} {f : Addr} {fd : FuncData}
theorem ok_law_plain (F : Fun K (Str.ofString "_law_plain") (Str.ofString "_law_plain") s_law_plain f fd) (g_dict : mg (Str.ofString "dict") = none) (g_int : mg (Str.ofString "int") = none) (g_isinstance : mg (Str.ofString "isinstance") = none) (g_list : mg (Str.ofString "list") = none) (g_str : mg (Str.ofString "str") = none) (g_tuple : mg (Str.ofString "tuple") = none) (hm : mg (Str.ofString "_law_plain") = some (.ref f)) : ∀ j, FnG P w K mg base CX0 (1 + j) f fd [(Str.ofString "value")] (Prom K mg 1 (plainF j))
  | 0 => Fun.zero (qn := (Str.ofString "_law_plain")) (st := s_law_plain)
  | j + 1 => by
    have bi : Binds K fd [(Str.ofString "value")] [] := F.binds fun _ _ _ _ _ _ us hl => match us, hl with | [_], _ => rfl
    have k_law_plain : Kn P w K mg base (1 + j) (Str.ofString "_law_plain") 1 (plainF j) := ⟨f, fd, [(Str.ofString "value")], ok_law_plain F g_dict g_int g_isinstance g_list g_str g_tuple hm j, hm, F.kp, bi, rfl⟩
    refine Fun.z (N := [(Str.ofString "value"), (Str.ofString "one")]) (k := 1 + j) (m := mPlain (plainF j)) F sc_law_plain rfl fun cdv A stk s H E B hr hg => ?_
    have hu0 : (A.deeper (envOfC (Str.ofString "_law_plain") (defScope s_law_plain) s.heap.objs.size f cdv)).units < cLine := by have := hr.un; omega
    have hu1 : (A.deeper (envOfC (Str.ofString "_law_plain") (defScope s_law_plain) s.heap.objs.size f cdv)).units + 1 < cLine := by have := hr.un; omega
    have hu64 : (A.deeper (envOfC (Str.ofString "_law_plain") (defScope s_law_plain) s.heap.objs.size f cdv)).units + 64 < cLine := by have := hr.un; omega
    have hu65 : (A.deeper (envOfC (Str.ofString "_law_plain") (defScope s_law_plain) s.heap.objs.size f cdv)).units + 65 < cLine := by have := hr.un; omega
    have hu70 : (A.deeper (envOfC (Str.ofString "_law_plain") (defScope s_law_plain) s.heap.objs.size f cdv)).units + 70 < cLine := by have := hr.un; omega
    have hgu : (A.deeper (envOfC (Str.ofString "_law_plain") (defScope s_law_plain) s.heap.objs.size f cdv)).guards = some [] := hg
    have SC := sc_law_plain
    delta mPlain
    exact (pssd_cons (psd_if (pt_d (pd_isi2 kit_list kit_tup rfl rfl g_isinstance rfl g_list bt_list rfl g_tuple bt_tuple (pb_bor 0))) (pssd_one (psd_ret (pd_cmp (o_eq rfl hu64) (PB.ofF (pf_lc [((Str.ofString "one"), 1)] rfl SC.nd (pis_sq rfl (PM.B (pb_bor 0))) (blkOk_by (by first | rfl | with_unfolding_all rfl)) (fun _ _ _ _ _ => (pgd_name 1 SC.nd)) (fun _ _ _ _ _ => (ptsd_one (pt_not' (pt_d (pd_callZ hr hgu (k_law_plain.kn (Nat.le_refl _)) (pas_d (pd_var 1) pas_nil)))))) (fun _ _ _ _ _ => pd_int) (by decide))) (PB.ofF (pf_lst pds_nil))))) pssd_nil)
 (pssd_cons (psd_if (pt_d (pd_isi kit_dict rfl rfl g_isinstance rfl g_dict bt_dict (pb_bor 0))) (pssd_one (psd_ret (pd_callZ hr hgu (k_law_plain.kn (Nat.le_refl _)) (pas_d (PD.of (pf_callTy (f_lst rfl rfl) rfl g_list bt_list (pbs_cons (PB.of pd_never) pbs_nil))) pas_nil)))) pssd_nil)
 (pssd_one (psd_ret (pd_or (pd_cmp o_is (pb_bor 0) (PB.of pd_non)) (pd_one (pd_isi2 kit_int kit_str rfl rfl g_isinstance rfl g_int bt_int rfl g_str bt_str (pb_bor 0))))))))
end

/-! ### _law_is -/
def s_law_is : Stmt := topS 31
theorem sc_law_is : FnScope [(Str.ofString "found"), (Str.ofString "due")] [(Str.ofString "found"), (Str.ofString "due")] (defScope s_law_is) := ⟨rfl, rfl, rfl, by decide +kernel, rfl, by decide +kernel, by decide +kernel⟩
noncomputable abbrev f_law_is : Fd := fIs 6
section
variable {P : Program} {w : World} {K : PySem.W.Frag} {mg : Str → Option Value} {base : Heap} {f : Addr} {fd : FuncData}
theorem ok_law_is (F : Fun K (Str.ofString "_law_is") (Str.ofString "_law_is") s_law_is f fd) (g_repr : mg (Str.ofString "repr") = none) (k_law_plain : Kn P w K mg base 7 (Str.ofString "_law_plain") 1 f_law_plain) : FnG P w K mg base CX0 8 f fd [(Str.ofString "found"), (Str.ofString "due")] (Prom K mg 2 f_law_is) := by
  refine Fun.z (N := [(Str.ofString "found"), (Str.ofString "due")]) (k := 7) (m := (mIs 6)) F sc_law_is rfl fun cdv A stk s H E B hr hg => ?_
  have hu0 : (A.deeper (envOfC (Str.ofString "_law_is") (defScope s_law_is) s.heap.objs.size f cdv)).units < cLine := by have := hr.un; omega
  have hu1 : (A.deeper (envOfC (Str.ofString "_law_is") (defScope s_law_is) s.heap.objs.size f cdv)).units + 1 < cLine := by have := hr.un; omega
  have hu64 : (A.deeper (envOfC (Str.ofString "_law_is") (defScope s_law_is) s.heap.objs.size f cdv)).units + 64 < cLine := by have := hr.un; omega
  have hu65 : (A.deeper (envOfC (Str.ofString "_law_is") (defScope s_law_is) s.heap.objs.size f cdv)).units + 65 < cLine := by have := hr.un; omega
  have hu70 : (A.deeper (envOfC (Str.ofString "_law_is") (defScope s_law_is) s.heap.objs.size f cdv)).units + 70 < cLine := by have := hr.un; omega
  have hgu : (A.deeper (envOfC (Str.ofString "_law_is") (defScope s_law_is) s.heap.objs.size f cdv)).guards = some [] := hg
  have SC := sc_law_is
  delta mIs
  exact (pssd_one (psd_ret (pd_and (pd_callZ hr hgu (k_law_plain.kn (by decide)) (pas_d (pd_var 0) pas_nil)) (pd_and (pd_cmp (o_eq rfl hu64) (pb_bor 0) (pb_bor 1)) (pd_and (pd_cmp (o_eq rfl hu64) (pb_bor 1) (pb_bor 0)) (pd_one (pd_cmp (o_eq rfl hu64) (PB.of (pd_callB (f_repr rfl hgu hu70) rfl g_repr bt_repr (pbs_cons (pb_bor 0) pbs_nil))) (PB.of (pd_callB (f_repr rfl hgu hu70) rfl g_repr bt_repr (pbs_cons (pb_bor 1) pbs_nil))))))))))
end

/-! ### _law_says -/
def s_law_says : Stmt := topS 32
theorem sc_law_says : FnScope [(Str.ofString "found"), (Str.ofString "is_due")] [(Str.ofString "found"), (Str.ofString "is_due")] (defScope s_law_says) := ⟨rfl, rfl, rfl, by decide +kernel, rfl, by decide +kernel, by decide +kernel⟩
noncomputable def m_law_says : Sd := (sRet (mIfE (mT (mVar 1)) (mOp isB (mBor 0) (Rd.ok (.bool true))) (mOp isB (mBor 0) (Rd.ok (.bool false)))))
noncomputable def f_law_says : Fd := fnD 2 m_law_says
section
variable {P : Program} {w : World} {K : PySem.W.Frag} {mg : Str → Option Value} {base : Heap} {f : Addr} {fd : FuncData}
theorem ok_law_says (F : Fun K (Str.ofString "_law_says") (Str.ofString "_law_says") s_law_says f fd) : FnG P w K mg base CX0 1 f fd [(Str.ofString "found"), (Str.ofString "is_due")] (Prom K mg 2 f_law_says) := by
  refine Fun.z (N := [(Str.ofString "found"), (Str.ofString "is_due")]) (k := 0) (m := m_law_says) F sc_law_says rfl fun cdv A stk s H E B hr hg => ?_
  have hu0 : (A.deeper (envOfC (Str.ofString "_law_says") (defScope s_law_says) s.heap.objs.size f cdv)).units < cLine := by have := hr.un; omega
  have hu1 : (A.deeper (envOfC (Str.ofString "_law_says") (defScope s_law_says) s.heap.objs.size f cdv)).units + 1 < cLine := by have := hr.un; omega
  have hu64 : (A.deeper (envOfC (Str.ofString "_law_says") (defScope s_law_says) s.heap.objs.size f cdv)).units + 64 < cLine := by have := hr.un; omega
  have hu65 : (A.deeper (envOfC (Str.ofString "_law_says") (defScope s_law_says) s.heap.objs.size f cdv)).units + 65 < cLine := by have := hr.un; omega
  have hu70 : (A.deeper (envOfC (Str.ofString "_law_says") (defScope s_law_says) s.heap.objs.size f cdv)).units + 70 < cLine := by have := hr.un; omega
  have hgu : (A.deeper (envOfC (Str.ofString "_law_says") (defScope s_law_says) s.heap.objs.size f cdv)).guards = some [] := hg
  have SC := sc_law_says
  delta m_law_says
  exact (pssd_one (psd_ret (pd_if (pt_d (pd_var 1)) (pd_cmp o_isB (pb_bor 0) (PB.of pd_bl)) (pd_cmp o_isB (pb_bor 0) (PB.of pd_bl)))))
end

/-! ### _law_schema -/
def s_law_schema : Stmt := topS 33
theorem sc_law_schema : FnScope [(Str.ofString "state"), (Str.ofString "sorts"), (Str.ofString "found"), (Str.ofString "name"), (Str.ofString "lap")] [(Str.ofString "state")] (defScope s_law_schema) := ⟨rfl, rfl, rfl, by decide +kernel, rfl, by decide +kernel, by decide +kernel⟩
noncomputable def m_law_schema : Sd := (sSeq (sSet 1 (vD (mCallZ f_law_pick (aSt 0 (aD (mLst (mCons (mTup (mCons (Rd.ok (.str (Str.ofString "p"))) mNil)) (mCons (mTup (mCons (Rd.ok (.str (Str.ofString "p"))) (mCons (Rd.ok (.str (Str.ofString "q"))) mNil))) (mCons (mTup (mCons (Rd.ok (.str (Str.ofString "p"))) (mCons (Rd.ok (.str (Str.ofString "q"))) mNil))) (mCons (mTup (mCons (Rd.ok (.str (Str.ofString "dog"))) (mCons (Rd.ok (.str (Str.ofString "man"))) mNil))) mNil))))) aNil)))))
 (sSeq (sSet 2 (vF (mLst mNil)))
 (sSeq (sFor (mIt (mSl (mSl (mLst (mCons (Rd.ok (.str (Str.ofString "likes"))) (mCons (Rd.ok (.str (Str.ofString "r"))) (mCons (Rd.ok (.str (Str.ofString "s"))) (mCons (Rd.ok (.str (Str.ofString "u"))) mNil))))) (some (mCallZ f_law_draw (aSt 0 (aD (Rd.ok (.int 2)) aNil)))) none) none (some (mOp addD (Rd.ok (.int 1)) (mCallZ f_law_draw (aSt 0 (aD (Rd.ok (.int 3)) aNil))))))) (tgN 3) (sApp 2 (mTup (mCons (mVar 3) (mCons (mCallB tupF (mCons (mLc (mRange1 (mOp addD (Rd.ok (.int 1)) (mCallB intF (mCons (mOp gtD (mCallZ f_law_draw (aSt 0 (aD (Rd.ok (.int 3)) aNil))) (Rd.ok (.int 0))) mNil)))) (tgN 4) mYes (mCallZ f_law_pick (aSt 0 (aD (mVar 1) aNil))) [4]) mNil)) mNil)))))
 (sRet (mTup (mCons (Rd.ok (.str (Str.ofString "schema"))) (mCons (mVar 1) (mCons (mCallB tupF (mCons (mCallB sortF (mCons (mBor 2) mNil)) mNil)) mNil))))))))
noncomputable def f_law_schema : Fd := fnD 5 m_law_schema
section
variable {P : Program} {w : World} {K : PySem.W.Frag} {mg : Str → Option Value} {base : Heap} {f : Addr} {fd : FuncData}
theorem ok_law_schema (F : Fun K (Str.ofString "_law_schema") (Str.ofString "_law_schema") s_law_schema f fd) (g_int : mg (Str.ofString "int") = none) (g_range : mg (Str.ofString "range") = none) (g_sorted : mg (Str.ofString "sorted") = none) (g_tuple : mg (Str.ofString "tuple") = none) (k_law_draw : Kn P w K mg base 2 (Str.ofString "_law_draw") 2 f_law_draw) (k_law_pick : Kn P w K mg base 3 (Str.ofString "_law_pick") 2 f_law_pick) : FnG P w K mg base CX0 4 f fd [(Str.ofString "state")] (Prom K mg 1 f_law_schema) := by
  refine Fun.z (N := [(Str.ofString "state"), (Str.ofString "sorts"), (Str.ofString "found"), (Str.ofString "name"), (Str.ofString "lap")]) (k := 3) (m := m_law_schema) F sc_law_schema rfl fun cdv A stk s H E B hr hg => ?_
  have hu0 : (A.deeper (envOfC (Str.ofString "_law_schema") (defScope s_law_schema) s.heap.objs.size f cdv)).units < cLine := by have := hr.un; omega
  have hu1 : (A.deeper (envOfC (Str.ofString "_law_schema") (defScope s_law_schema) s.heap.objs.size f cdv)).units + 1 < cLine := by have := hr.un; omega
  have hu64 : (A.deeper (envOfC (Str.ofString "_law_schema") (defScope s_law_schema) s.heap.objs.size f cdv)).units + 64 < cLine := by have := hr.un; omega
  have hu65 : (A.deeper (envOfC (Str.ofString "_law_schema") (defScope s_law_schema) s.heap.objs.size f cdv)).units + 65 < cLine := by have := hr.un; omega
  have hu70 : (A.deeper (envOfC (Str.ofString "_law_schema") (defScope s_law_schema) s.heap.objs.size f cdv)).units + 70 < cLine := by have := hr.un; omega
  have hgu : (A.deeper (envOfC (Str.ofString "_law_schema") (defScope s_law_schema) s.heap.objs.size f cdv)).guards = some [] := hg
  have SC := sc_law_schema
  delta m_law_schema
  exact (pssd_cons (psd_set 1 SC.nd (PV.D (pd_callZ hr hgu (k_law_pick.kn (by decide)) (pas_st 0 (pas_d (PD.of (pf_lst (pds_cons (pd_tup (pds_cons pd_str pds_nil)) (pds_cons (pd_tup (pds_cons pd_str (pds_cons pd_str pds_nil))) (pds_cons (pd_tup (pds_cons pd_str (pds_cons pd_str pds_nil))) (pds_cons (pd_tup (pds_cons pd_str (pds_cons pd_str pds_nil))) pds_nil)))))) pas_nil)))))
 (pssd_cons (psd_set 2 SC.nd (PV.F (pf_lst pds_nil)))
 (pssd_cons (psd_for PassesOwn.never rfl (pis_sq rfl (PM.D (pd_sl rfl (PB.of (pd_sl rfl (PB.ofF (pf_lst (pds_cons pd_str (pds_cons pd_str (pds_cons pd_str (pds_cons pd_str pds_nil)))))) (po_so (PB.of (pd_callZ hr hgu (k_law_draw.kn (by decide)) (pas_st 0 (pas_d pd_int pas_nil))))) po_no)) po_no (po_so (PB.of (pd_bin (o_add rfl) (PB.of pd_int) (PB.of (pd_callZ hr hgu (k_law_draw.kn (by decide)) (pas_st 0 (pas_d pd_int pas_nil)))))))))) (pgd_name 3 SC.nd) (pssd_one (psd_app 2 (pd_tup (pds_cons (pd_var 3) (pds_cons (pd_callTy (f_tup rfl) rfl g_tuple bt_tuple (pbs_cons (PB.ofF (pf_lc [((Str.ofString "lap"), 4)] rfl SC.nd (pis_range1 rfl g_range (PB.of (pd_bin (o_add rfl) (PB.of pd_int) (PB.of (pd_callTy f_int rfl g_int bt_int (pbs_cons (PB.of (pd_cmp o_gt (PB.of (pd_callZ hr hgu (k_law_draw.kn (by decide)) (pas_st 0 (pas_d pd_int pas_nil)))) (PB.of pd_int))) pbs_nil)))))) (blkOk_by (by first | rfl | with_unfolding_all rfl)) (fun _ _ _ _ _ => (pgd_name 4 SC.nd)) (fun _ _ _ _ _ => ptsd_nil) (fun _ _ _ _ _ => (pd_callZ hr hgu (k_law_pick.kn (by decide)) (pas_st 0 (pas_d (pd_var 1) pas_nil)))) (by decide))) pbs_nil)) pds_nil))))))
 (pssd_one (psd_ret (pd_tup (pds_cons pd_str (pds_cons (pd_var 1) (pds_cons (pd_callTy (f_tup rfl) rfl g_tuple bt_tuple (pbs_cons (PB.ofF (pf_callB (f_sort rfl hu70) rfl g_sorted bt_sorted (pbs_cons (pb_bor 2) pbs_nil))) pbs_nil)) pds_nil)))))))))
end

/-! ### _law_tuples -/
def s_law_tuples : Stmt := topS 34
theorem sc_law_tuples : FnScope [(Str.ofString "lots"), (Str.ofString "found"), (Str.ofString "lot"), (Str.ofString "longer"), (Str.ofString "one"), (Str.ofString "other")] [(Str.ofString "lots")] (defScope s_law_tuples) := ⟨rfl, rfl, rfl, by decide +kernel, rfl, by decide +kernel, by decide +kernel⟩
noncomputable def m_law_tuples : Sd := (sSeq (sSet 1 (vF (mLst (mCons (mTup mNil) mNil))))
 (sSeq (sFor (mIt (mVar 0)) (tgN 2) (sSeq (sSet 3 (vF (mLst mNil)))
 (sSeq (sFrz 1 (sFor (mIt (mVar 1)) (tgN 4) (sSet 3 (vF (mOp catD (mBor 3) (mLc (mIt (mBor 2)) (tgN 5) mYes (mOp addD (mBor 4) (mTup (mCons (mVar 5) mNil))) [5]))))))
 (sFrz 3 (sSet 1 (vD (mVar 3)))))))
 (sFrz 1 (sRet (mVar 1)))))
noncomputable def f_law_tuples : Fd := fnD 6 m_law_tuples
section
variable {P : Program} {w : World} {K : PySem.W.Frag} {mg : Str → Option Value} {base : Heap} {f : Addr} {fd : FuncData}
theorem ok_law_tuples (F : Fun K (Str.ofString "_law_tuples") (Str.ofString "_law_tuples") s_law_tuples f fd) : FnG P w K mg base CX0 1 f fd [(Str.ofString "lots")] (Prom K mg 1 f_law_tuples) := by
  refine Fun.z (N := [(Str.ofString "lots"), (Str.ofString "found"), (Str.ofString "lot"), (Str.ofString "longer"), (Str.ofString "one"), (Str.ofString "other")]) (k := 0) (m := m_law_tuples) F sc_law_tuples rfl fun cdv A stk s H E B hr hg => ?_
  have hu0 : (A.deeper (envOfC (Str.ofString "_law_tuples") (defScope s_law_tuples) s.heap.objs.size f cdv)).units < cLine := by have := hr.un; omega
  have hu1 : (A.deeper (envOfC (Str.ofString "_law_tuples") (defScope s_law_tuples) s.heap.objs.size f cdv)).units + 1 < cLine := by have := hr.un; omega
  have hu64 : (A.deeper (envOfC (Str.ofString "_law_tuples") (defScope s_law_tuples) s.heap.objs.size f cdv)).units + 64 < cLine := by have := hr.un; omega
  have hu65 : (A.deeper (envOfC (Str.ofString "_law_tuples") (defScope s_law_tuples) s.heap.objs.size f cdv)).units + 65 < cLine := by have := hr.un; omega
  have hu70 : (A.deeper (envOfC (Str.ofString "_law_tuples") (defScope s_law_tuples) s.heap.objs.size f cdv)).units + 70 < cLine := by have := hr.un; omega
  have hgu : (A.deeper (envOfC (Str.ofString "_law_tuples") (defScope s_law_tuples) s.heap.objs.size f cdv)).guards = some [] := hg
  have SC := sc_law_tuples
  delta m_law_tuples
  exact (pssd_cons (psd_set 1 SC.nd (PV.F (pf_lst (pds_cons (pd_tup pds_nil) pds_nil))))
 (pssd_cons (psd_for PassesOwn.never rfl (pis_sq rfl (PM.D (pd_var 0))) (pgd_name 2 SC.nd) (pssd_cons (psd_set 3 SC.nd (PV.F (pf_lst pds_nil)))
 (pssd_cons (PSd.frz 1 (psd_for PassesOwn.never rfl (pis_sq rfl (PM.D (pd_var 1))) (pgd_name 4 SC.nd) (pssd_one (psd_set 3 SC.nd (PV.F (pf_bin o_cat (pb_bor 3) (PB.ofF (pf_lc [((Str.ofString "other"), 5)] rfl SC.nd (pis_sq rfl (PM.B (pb_bor 2))) (blkOk_by (by first | rfl | with_unfolding_all rfl)) (fun _ _ _ _ _ => (pgd_name 5 SC.nd)) (fun _ _ _ _ _ => ptsd_nil) (fun _ _ _ _ _ => (pd_bin (o_add rfl) (pb_bor 4) (PB.of (pd_tup (pds_cons (pd_var 5) pds_nil))))) (by decide)))))))))
 (pssd_one (PSd.frz 3 (psd_set 1 SC.nd (PV.D (pd_var 3))))))))
 (pssd_one (PSd.frz 1 (psd_ret (pd_var 1))))))
end

/-! ### _law_store -/
def s_law_store : Stmt := topS 35
theorem sc_law_store : FnScope [(Str.ofString "state"), (Str.ofString "schema"), (Str.ofString "most"), (Str.ofString "lots"), (Str.ofString "rows"), (Str.ofString "odds"), (Str.ofString "name"), (Str.ofString "places"), (Str.ofString "sort"), (Str.ofString "row"), (Str.ofString "place")] [(Str.ofString "state"), (Str.ofString "schema"), (Str.ofString "most")] (defScope s_law_store) := ⟨rfl, rfl, rfl, by decide +kernel, rfl, by decide +kernel, by decide +kernel⟩
noncomputable def m_law_store : Sd := (sSeq (sSet 3 (vF (mCallB dictXF (mCons (mLc (mIt (mOp ixD (mBor 1) (Rd.ok (.int 1)))) (tgN 8) mYes (mTup (mCons (mVar 8) (mCons (mCallB sortY (mCons (mSl (mCallZ f_law_shuffled (aSt 0 (aD (mLst (mCons (Rd.ok (.int 0)) (mCons (Rd.ok (.int 1)) (mCons (Rd.ok (.int 2)) (mCons (Rd.ok (.int 3)) (mCons (Rd.ok (.int 5)) (mCons (Rd.ok (.int 8)) (mCons (Rd.ok (.int 12)) (mCons (Rd.ok (.int 999)) mNil))))))))) aNil))) none (some (mCallZ f_law_draw (aSt 0 (aD (mOp addD (mBor 2) (Rd.ok (.int 1))) aNil))))) mNil)) mNil))) [8]) mNil))))
 (sSeq (sPar 4 5 (vF (mLst mNil)) (vD (mCallZ f_law_pick (aSt 0 (aD (mLst (mCons (Rd.ok (.int 2)) (mCons (Rd.ok (.int 3)) (mCons (Rd.ok (.int 2)) mNil)))) aNil)))))
 (sSeq (sFor (mIt (mOp ixD (mBor 1) (Rd.ok (.int 2)))) (tgT 2 (tgCons (tgN 6) (tgCons (tgN 7) tgNil))) (sApp 4 (mCallB tupF (mCons (mCallB sortF (mCons (mLc (mIt (mCallZ f_law_tuples (aD (mLc (mIt (mBor 7)) (tgN 10) mYes (mOp ixD (mBor 3) (mBor 10)) [10]) aNil))) (tgN 9) (mT (mOp eqD (mCallZ f_law_draw (aSt 0 (aD (mVar 5) aNil))) (Rd.ok (.int 0)))) (mVar 9) [9]) mNil)) mNil))))
 (sRet (mTup (mCons (Rd.ok (.str (Str.ofString "store"))) (mCons (mCallB tupF (mCons (mLc (mIt (mOp ixD (mBor 1) (Rd.ok (.int 1)))) (tgN 8) mYes (mCallB tupF (mCons (mOp ixD (mBor 3) (mBor 8)) mNil)) [8]) mNil)) (mCons (mCallB tupF (mCons (mBor 4) mNil)) mNil))))))))
noncomputable def f_law_store : Fd := fnD 11 m_law_store
section
variable {P : Program} {w : World} {K : PySem.W.Frag} {mg : Str → Option Value} {base : Heap} {f : Addr} {fd : FuncData}
theorem ok_law_store (F : Fun K (Str.ofString "_law_store") (Str.ofString "_law_store") s_law_store f fd) (g_dict : mg (Str.ofString "dict") = none) (g_sorted : mg (Str.ofString "sorted") = none) (g_tuple : mg (Str.ofString "tuple") = none) (k_law_draw : Kn P w K mg base 2 (Str.ofString "_law_draw") 2 f_law_draw) (k_law_pick : Kn P w K mg base 3 (Str.ofString "_law_pick") 2 f_law_pick) (k_law_shuffled : Kn P w K mg base 3 (Str.ofString "_law_shuffled") 2 f_law_shuffled) (k_law_tuples : Kn P w K mg base 1 (Str.ofString "_law_tuples") 1 f_law_tuples) : FnG P w K mg base CX0 4 f fd [(Str.ofString "state"), (Str.ofString "schema"), (Str.ofString "most")] (Prom K mg 3 f_law_store) := by
  refine Fun.z (N := [(Str.ofString "state"), (Str.ofString "schema"), (Str.ofString "most"), (Str.ofString "lots"), (Str.ofString "rows"), (Str.ofString "odds"), (Str.ofString "name"), (Str.ofString "places"), (Str.ofString "sort"), (Str.ofString "row"), (Str.ofString "place")]) (k := 3) (m := m_law_store) F sc_law_store rfl fun cdv A stk s H E B hr hg => ?_
  have hu0 : (A.deeper (envOfC (Str.ofString "_law_store") (defScope s_law_store) s.heap.objs.size f cdv)).units < cLine := by have := hr.un; omega
  have hu1 : (A.deeper (envOfC (Str.ofString "_law_store") (defScope s_law_store) s.heap.objs.size f cdv)).units + 1 < cLine := by have := hr.un; omega
  have hu64 : (A.deeper (envOfC (Str.ofString "_law_store") (defScope s_law_store) s.heap.objs.size f cdv)).units + 64 < cLine := by have := hr.un; omega
  have hu65 : (A.deeper (envOfC (Str.ofString "_law_store") (defScope s_law_store) s.heap.objs.size f cdv)).units + 65 < cLine := by have := hr.un; omega
  have hu70 : (A.deeper (envOfC (Str.ofString "_law_store") (defScope s_law_store) s.heap.objs.size f cdv)).units + 70 < cLine := by have := hr.un; omega
  have hgu : (A.deeper (envOfC (Str.ofString "_law_store") (defScope s_law_store) s.heap.objs.size f cdv)).guards = some [] := hg
  have SC := sc_law_store
  delta m_law_store
  exact (pssd_cons (psd_set 3 SC.nd (PV.F (pf_callTy (f_dictX rfl rfl hu70) rfl g_dict bt_dict (pbs_cons (PB.ofF (pf_lc [((Str.ofString "sort"), 8)] rfl SC.nd (pis_sq rfl (PM.B (PB.of (pd_ix rfl hu1 (pb_bor 1) (PB.of pd_int))))) (blkOk_by (by first | rfl | with_unfolding_all rfl)) (fun _ _ _ _ _ => (pgd_name 8 SC.nd)) (fun _ _ _ _ _ => ptsd_nil) (fun _ _ _ _ _ => (pd_tup (pds_cons (pd_var 8) (pds_cons (PD.of (pf_callB (f_sortY rfl rfl hu70) rfl g_sorted bt_sorted (pbs_cons (PB.of (pd_sl rfl (PB.of (pd_callZ hr hgu (k_law_shuffled.kn (by decide)) (pas_st 0 (pas_d (PD.of (pf_lst (pds_cons pd_int (pds_cons pd_int (pds_cons pd_int (pds_cons pd_int (pds_cons pd_int (pds_cons pd_int (pds_cons pd_int (pds_cons pd_int pds_nil)))))))))) pas_nil)))) po_no (po_so (PB.of (pd_callZ hr hgu (k_law_draw.kn (by decide)) (pas_st 0 (pas_d (pd_bin (o_add rfl) (pb_bor 2) (PB.of pd_int)) pas_nil))))))) pbs_nil))) pds_nil)))) (by decide))) pbs_nil))))
 (pssd_cons (psd_parT 4 5 rfl SC.nd (PV.F (pf_lst pds_nil)) (PV.D (pd_callZ hr hgu (k_law_pick.kn (by decide)) (pas_st 0 (pas_d (PD.of (pf_lst (pds_cons pd_int (pds_cons pd_int (pds_cons pd_int pds_nil))))) pas_nil)))) (by decide))
 (pssd_cons (psd_for PassesOwn.never rfl (pis_sq rfl (PM.D (pd_ix rfl hu1 (pb_bor 1) (PB.of pd_int)))) (pgd_tup rfl rfl (pgsd_cons (pgd_name 6 SC.nd) (pgsd_cons (pgd_name 7 SC.nd) pgsd_nil))) (pssd_one (psd_app 4 (pd_callTy (f_tup rfl) rfl g_tuple bt_tuple (pbs_cons (PB.ofF (pf_callB (f_sort rfl hu70) rfl g_sorted bt_sorted (pbs_cons (PB.ofF (pf_lc [((Str.ofString "row"), 9)] rfl SC.nd (pis_sq rfl (PM.B (PB.of (pd_callZ hr hgu (k_law_tuples.kn (by decide)) (pas_d (PD.of (pf_lc [((Str.ofString "place"), 10)] rfl SC.nd (pis_sq rfl (PM.B (pb_bor 7))) (blkOk_by (by first | rfl | with_unfolding_all rfl)) (fun _ _ _ _ _ => (pgd_name 10 SC.nd)) (fun _ _ _ _ _ => ptsd_nil) (fun _ _ _ _ _ => (pd_ix rfl hu1 (pb_bor 3) (pb_bor 10))) (by decide))) pas_nil))))) (blkOk_by (by first | rfl | with_unfolding_all rfl)) (fun _ _ _ _ _ => (pgd_name 9 SC.nd)) (fun _ _ _ _ _ => (ptsd_one (pt_cmp' (o_eq rfl hu64) (PB.of (pd_callZ hr hgu (k_law_draw.kn (by decide)) (pas_st 0 (pas_d (pd_var 5) pas_nil)))) (PB.of pd_int)))) (fun _ _ _ _ _ => (pd_var 9)) (by decide))) pbs_nil))) pbs_nil)))))
 (pssd_one (psd_ret (pd_tup (pds_cons pd_str (pds_cons (pd_callTy (f_tup rfl) rfl g_tuple bt_tuple (pbs_cons (PB.ofF (pf_lc [((Str.ofString "sort"), 8)] rfl SC.nd (pis_sq rfl (PM.B (PB.of (pd_ix rfl hu1 (pb_bor 1) (PB.of pd_int))))) (blkOk_by (by first | rfl | with_unfolding_all rfl)) (fun _ _ _ _ _ => (pgd_name 8 SC.nd)) (fun _ _ _ _ _ => ptsd_nil) (fun _ _ _ _ _ => (pd_callTy (f_tup rfl) rfl g_tuple bt_tuple (pbs_cons (PB.of (pd_ix rfl hu1 (pb_bor 3) (pb_bor 8))) pbs_nil))) (by decide))) pbs_nil)) (pds_cons (pd_callTy (f_tup rfl) rfl g_tuple bt_tuple (pbs_cons (pb_bor 4) pbs_nil)) pds_nil)))))))))
end

/-! ### _law_near -/
def s_law_near : Stmt := topS 36
theorem sc_law_near : FnScope [(Str.ofString "state"), (Str.ofString "value"), (Str.ofString "at"), (Str.ofString "some")] [(Str.ofString "state"), (Str.ofString "value")] (defScope s_law_near) := ⟨rfl, rfl, rfl, by decide +kernel, rfl, by decide +kernel, by decide +kernel⟩
noncomputable def m_law_near (f_law_near : Fd) : Sd := (sSeq (sIf (mOr (mT (mOp isN (mBor 1) (Rd.ok .none))) (mT (mIsi isBool (mBor 1)))) (sRet (mCallZ f_law_pick (aSt 0 (aD (mLst (mCons (Rd.ok (.int 0)) (mCons (Rd.ok (.str (Str.ofString ""))) (mCons (mTup mNil) (mCons (Rd.ok (.int 1)) (mCons (Rd.ok .none) mNil)))))) aNil)))) sNx)
 (sSeq (sIf (mT (mIsi isStr (mBor 1))) (sRet (mCallZ f_law_pick (aSt 0 (aD (mLst (mCons (Rd.ok (.str (Str.ofString ""))) (mCons (mOp addD (mBor 1) (Rd.ok (.str (Str.ofString "x")))) (mCons (mSl (mBor 1) (some (Rd.ok (.int 1))) none) (mCons (Rd.ok (.str (Str.ofString "zz"))) (mCons (mUn upD (mBor 1)) (mCons (Rd.ok .none) (mCons (Rd.ok (.str (Str.ofString "yes"))) (mCons (Rd.ok (.int 0)) (mCons (mTup (mCons (mVar 1) mNil)) (mCons (Rd.ok (.str (Str.ofString "x"))) (mCons (Rd.ok (.str (Str.ofString "y"))) (mCons (Rd.ok (.str (Str.ofString "p"))) (mCons (Rd.ok (.str (Str.ofString "q"))) (mCons (Rd.ok (.str (Str.ofString "r"))) (mCons (Rd.ok (.str (Str.ofString "likes"))) mNil)))))))))))))))) aNil)))) sNx)
 (sSeq (sIf (mT (mIsi isInt (mBor 1))) (sRet (mCallZ f_law_pick (aSt 0 (aD (mLst (mCons (mOp addD (mBor 1) (Rd.ok (.int 1))) (mCons (mOp subD (mBor 1) (Rd.ok (.int 1))) (mCons (Rd.ok (.bool true)) (mCons (Rd.ok .none) (mCons (Rd.ok (.int 1000)) (mCons (mTup (mCons (mVar 1) mNil)) (mCons (Rd.ok (.str (Str.ofString "0"))) mNil)))))))) aNil)))) sNx)
 (sSeq (sIf (mAnd (mT (mIsi isTup (mBor 1))) (mAnd (mT (mOp neD (mBor 1) (mTup mNil))) (mT (mOp gtD (mCallZ f_law_draw (aSt 0 (aD (Rd.ok (.int 5)) aNil))) (Rd.ok (.int 0)))))) (sSeq (sSet 2 (vD (mCallZ f_law_draw (aSt 0 (aD (mCallB lenF (mCons (mBor 1) mNil)) aNil)))))
 (sRet (mOp addD (mOp addD (mSl (mBor 1) none (some (mBor 2))) (mTup (mCons (mCallZ f_law_near (aSt 0 (aD (mOp ixD (mBor 1) (mBor 2)) aNil))) mNil))) (mSl (mBor 1) (some (mOp addD (mBor 2) (Rd.ok (.int 1)))) none)))) sNx)
 (sSeq (sSet 3 (vF (mCallB lstF (mCons (mBor 1) mNil))))
 (sFrz 3 (sRet (mCallZ f_law_pick (aSt 0 (aD (mLst (mCons (mVar 3) (mCons (mCallB tupF (mCons (mOp catD (mBor 3) (mLst (mCons (Rd.ok (.int 0)) mNil))) mNil)) (mCons (mCallB tupF (mCons (mSl (mBor 3) none (some (mUn negD (Rd.ok (.int 1))))) mNil)) (mCons (Rd.ok .none) (mCons (mCallB tupF (mCons (mOp catD (mBor 3) (mSl (mBor 3) (some (mUn negD (Rd.ok (.int 1)))) none)) mNil)) (mCons (mCallB tupF (mCons (mUn revD (mBor 3)) mNil)) (mCons (mTup mNil) mNil)))))))) aNil))))))))))
noncomputable def r_law_near : Nat → Fd
  | 0 => fun _ _ => none
  | j + 1 => fnD 4 (m_law_near (r_law_near j))
noncomputable abbrev f_law_near : Fd := r_law_near 5
section
variable {P : Program} {w : World} {K : PySem.W.Frag} {mg : Str → Option Value} {base : Heap} {f : Addr} {fd : FuncData}
theorem ok_law_near (F : Fun K (Str.ofString "_law_near") (Str.ofString "_law_near") s_law_near f fd) (g_bool : mg (Str.ofString "bool") = none) (g_int : mg (Str.ofString "int") = none) (g_isinstance : mg (Str.ofString "isinstance") = none) (g_len : mg (Str.ofString "len") = none) (g_list : mg (Str.ofString "list") = none) (g_str : mg (Str.ofString "str") = none) (g_tuple : mg (Str.ofString "tuple") = none) (k_law_draw : Kn P w K mg base 2 (Str.ofString "_law_draw") 2 f_law_draw) (k_law_pick : Kn P w K mg base 3 (Str.ofString "_law_pick") 2 f_law_pick) (hm : mg (Str.ofString "_law_near") = some (.ref f)) : ∀ j, FnG P w K mg base CX0 (4 + j) f fd [(Str.ofString "state"), (Str.ofString "value")] (Prom K mg 2 (r_law_near j))
  | 0 => Fun.zero (qn := (Str.ofString "_law_near")) (st := s_law_near)
  | j + 1 => by
    have bi : Binds K fd [(Str.ofString "state"), (Str.ofString "value")] [] := F.binds fun _ _ _ _ _ _ us hl => match us, hl with | [_, _], _ => rfl
    have k_law_near : Kn P w K mg base (4 + j) (Str.ofString "_law_near") 2 (r_law_near j) := ⟨f, fd, [(Str.ofString "state"), (Str.ofString "value")], ok_law_near F g_bool g_int g_isinstance g_len g_list g_str g_tuple k_law_draw k_law_pick hm j, hm, F.kp, bi, rfl⟩
    refine Fun.z (N := [(Str.ofString "state"), (Str.ofString "value"), (Str.ofString "at"), (Str.ofString "some")]) (k := 4 + j) (m := m_law_near (r_law_near j)) F sc_law_near rfl fun cdv A stk s H E B hr hg => ?_
    have hu0 : (A.deeper (envOfC (Str.ofString "_law_near") (defScope s_law_near) s.heap.objs.size f cdv)).units < cLine := by have := hr.un; omega
    have hu1 : (A.deeper (envOfC (Str.ofString "_law_near") (defScope s_law_near) s.heap.objs.size f cdv)).units + 1 < cLine := by have := hr.un; omega
    have hu64 : (A.deeper (envOfC (Str.ofString "_law_near") (defScope s_law_near) s.heap.objs.size f cdv)).units + 64 < cLine := by have := hr.un; omega
    have hu65 : (A.deeper (envOfC (Str.ofString "_law_near") (defScope s_law_near) s.heap.objs.size f cdv)).units + 65 < cLine := by have := hr.un; omega
    have hu70 : (A.deeper (envOfC (Str.ofString "_law_near") (defScope s_law_near) s.heap.objs.size f cdv)).units + 70 < cLine := by have := hr.un; omega
    have hgu : (A.deeper (envOfC (Str.ofString "_law_near") (defScope s_law_near) s.heap.objs.size f cdv)).guards = some [] := hg
    have SC := sc_law_near
    delta m_law_near
    exact (pssd_cons (psd_if (PTs'.of (ptw_or (pt_cmp' o_is (pb_bor 1) (PB.of pd_non)) (ptw_or1 (pt_d (pd_isi kit_bool rfl rfl g_isinstance rfl g_bool bt_bool (pb_bor 1)))))) (pssd_one (psd_ret (pd_callZ hr hgu (k_law_pick.kn (by omega)) (pas_st 0 (pas_d (PD.of (pf_lst (pds_cons pd_int (pds_cons pd_str (pds_cons (pd_tup pds_nil) (pds_cons pd_int (pds_cons pd_non pds_nil))))))) pas_nil))))) pssd_nil)
 (pssd_cons (psd_if (pt_d (pd_isi kit_str rfl rfl g_isinstance rfl g_str bt_str (pb_bor 1))) (pssd_one (psd_ret (pd_callZ hr hgu (k_law_pick.kn (by omega)) (pas_st 0 (pas_d (PD.of (pf_lst (pds_cons pd_str (pds_cons (pd_bin (o_add rfl) (pb_bor 1) (PB.of pd_str)) (pds_cons (pd_sl rfl (pb_bor 1) (po_so (PB.of pd_int)) po_no) (pds_cons pd_str (pds_cons (pd_up (pb_bor 1)) (pds_cons pd_non (pds_cons pd_str (pds_cons pd_int (pds_cons (pd_tup (pds_cons (pd_var 1) pds_nil)) (pds_cons pd_str (pds_cons pd_str (pds_cons pd_str (pds_cons pd_str (pds_cons pd_str (pds_cons pd_str pds_nil))))))))))))))))) pas_nil))))) pssd_nil)
 (pssd_cons (psd_if (pt_d (pd_isi kit_int rfl rfl g_isinstance rfl g_int bt_int (pb_bor 1))) (pssd_one (psd_ret (pd_callZ hr hgu (k_law_pick.kn (by omega)) (pas_st 0 (pas_d (PD.of (pf_lst (pds_cons (pd_bin (o_add rfl) (pb_bor 1) (PB.of pd_int)) (pds_cons (pd_bin o_sub (pb_bor 1) (PB.of pd_int)) (pds_cons pd_bl (pds_cons pd_non (pds_cons pd_int (pds_cons (pd_tup (pds_cons (pd_var 1) pds_nil)) (pds_cons pd_str pds_nil))))))))) pas_nil))))) pssd_nil)
 (pssd_cons (psd_if (PTs'.of (ptw_and (pt_d (pd_isi kit_tup rfl rfl g_isinstance rfl g_tuple bt_tuple (pb_bor 1))) (ptw_and (pt_cmp' (o_ne rfl hu64) (pb_bor 1) (PB.of (pd_tup pds_nil))) (ptw_and1 (pt_cmp' o_gt (PB.of (pd_callZ hr hgu (k_law_draw.kn (by omega)) (pas_st 0 (pas_d pd_int pas_nil)))) (PB.of pd_int)))))) (pssd_cons (psd_set 2 SC.nd (PV.D (pd_callZ hr hgu (k_law_draw.kn (by omega)) (pas_st 0 (pas_d (pd_callB (f_len rfl) rfl g_len bt_len (pbs_cons (pb_bor 1) pbs_nil)) pas_nil)))))
 (pssd_one (psd_ret (pd_bin (o_add rfl) (PB.of (pd_bin (o_add rfl) (PB.of (pd_sl rfl (pb_bor 1) po_no (po_so (pb_bor 2)))) (PB.of (pd_tup (pds_cons (pd_callZ hr hgu (k_law_near.kn (Nat.le_refl _)) (pas_st 0 (pas_d (pd_ix rfl hu1 (pb_bor 1) (pb_bor 2)) pas_nil))) pds_nil))))) (PB.of (pd_sl rfl (pb_bor 1) (po_so (PB.of (pd_bin (o_add rfl) (pb_bor 2) (PB.of pd_int)))) po_no)))))) pssd_nil)
 (pssd_cons (psd_set 3 SC.nd (PV.F (pf_callTy (f_lst rfl rfl) rfl g_list bt_list (pbs_cons (pb_bor 1) pbs_nil))))
 (pssd_one (PSd.frz 3 (psd_ret (pd_callZ hr hgu (k_law_pick.kn (by omega)) (pas_st 0 (pas_d (PD.of (pf_lst (pds_cons (pd_var 3) (pds_cons (pd_callTy (f_tup rfl) rfl g_tuple bt_tuple (pbs_cons (PB.ofF (pf_bin o_cat (pb_bor 3) (PB.ofF (pf_lst (pds_cons pd_int pds_nil))))) pbs_nil)) (pds_cons (pd_callTy (f_tup rfl) rfl g_tuple bt_tuple (pbs_cons (PB.of (pd_sl rfl (pb_bor 3) po_no (po_so (PB.of (pd_neg pd_int))))) pbs_nil)) (pds_cons pd_non (pds_cons (pd_callTy (f_tup rfl) rfl g_tuple bt_tuple (pbs_cons (PB.ofF (pf_bin o_cat (pb_bor 3) (PB.of (pd_sl rfl (pb_bor 3) (po_so (PB.of (pd_neg pd_int))) po_no)))) pbs_nil)) (pds_cons (pd_callTy (f_tup rfl) rfl g_tuple bt_tuple (pbs_cons (PB.of (pd_rev rfl (pb_bor 3))) pbs_nil)) (pds_cons (pd_tup pds_nil) pds_nil))))))))) pas_nil)))))))))))
end

/-! ### _law_are_numbers -/
def s_law_are_numbers : Stmt := topS 37
theorem sc_law_are_numbers : FnScope [(Str.ofString "thing"), (Str.ofString "one")] [(Str.ofString "thing")] (defScope s_law_are_numbers) := ⟨rfl, rfl, rfl, by decide +kernel, rfl, by decide +kernel, by decide +kernel⟩
noncomputable def m_law_are_numbers : Sd := (sRet (mAndV (mIsi isTup (mBor 0)) (mOp eqD (mLc (mIt (mBor 0)) (tgN 1) (mOr (mT (mIsi isBool (mBor 1))) (mOr (mNot (mT (mIsi isInt (mBor 1)))) (mNot (mT (mChain leD leD (Rd.ok (.int 0)) (mBor 1) (Rd.ok (.int 999))))))) (Rd.ok (.int 1)) [1]) (mLst mNil))))
noncomputable def f_law_are_numbers : Fd := fnD 2 m_law_are_numbers
section
variable {P : Program} {w : World} {K : PySem.W.Frag} {mg : Str → Option Value} {base : Heap} {f : Addr} {fd : FuncData}
theorem ok_law_are_numbers (F : Fun K (Str.ofString "_law_are_numbers") (Str.ofString "_law_are_numbers") s_law_are_numbers f fd) (g_bool : mg (Str.ofString "bool") = none) (g_int : mg (Str.ofString "int") = none) (g_isinstance : mg (Str.ofString "isinstance") = none) (g_tuple : mg (Str.ofString "tuple") = none) : FnG P w K mg base CX0 1 f fd [(Str.ofString "thing")] (Prom K mg 1 f_law_are_numbers) := by
  refine Fun.z (N := [(Str.ofString "thing"), (Str.ofString "one")]) (k := 0) (m := m_law_are_numbers) F sc_law_are_numbers rfl fun cdv A stk s H E B hr hg => ?_
  have hu0 : (A.deeper (envOfC (Str.ofString "_law_are_numbers") (defScope s_law_are_numbers) s.heap.objs.size f cdv)).units < cLine := by have := hr.un; omega
  have hu1 : (A.deeper (envOfC (Str.ofString "_law_are_numbers") (defScope s_law_are_numbers) s.heap.objs.size f cdv)).units + 1 < cLine := by have := hr.un; omega
  have hu64 : (A.deeper (envOfC (Str.ofString "_law_are_numbers") (defScope s_law_are_numbers) s.heap.objs.size f cdv)).units + 64 < cLine := by have := hr.un; omega
  have hu65 : (A.deeper (envOfC (Str.ofString "_law_are_numbers") (defScope s_law_are_numbers) s.heap.objs.size f cdv)).units + 65 < cLine := by have := hr.un; omega
  have hu70 : (A.deeper (envOfC (Str.ofString "_law_are_numbers") (defScope s_law_are_numbers) s.heap.objs.size f cdv)).units + 70 < cLine := by have := hr.un; omega
  have hgu : (A.deeper (envOfC (Str.ofString "_law_are_numbers") (defScope s_law_are_numbers) s.heap.objs.size f cdv)).guards = some [] := hg
  have SC := sc_law_are_numbers
  delta m_law_are_numbers
  exact (pssd_one (psd_ret (pd_and (pd_isi kit_tup rfl rfl g_isinstance rfl g_tuple bt_tuple (pb_bor 0)) (pd_one (pd_cmp (o_eq rfl hu64) (PB.ofF (pf_lc [((Str.ofString "one"), 1)] rfl SC.nd (pis_sq rfl (PM.B (pb_bor 0))) (blkOk_by (by first | rfl | with_unfolding_all rfl)) (fun _ _ _ _ _ => (pgd_name 1 SC.nd)) (fun _ _ _ _ _ => (ptsd_one (PTs'.of (ptw_or (pt_d (pd_isi kit_bool rfl rfl g_isinstance rfl g_bool bt_bool (pb_bor 1))) (ptw_or (pt_not' (pt_d (pd_isi kit_int rfl rfl g_isinstance rfl g_int bt_int (pb_bor 1)))) (ptw_or1 (pt_not' (pt_chain' o_le o_le (PB.of pd_int) (pb_bor 1) (PB.of pd_int))))))))) (fun _ _ _ _ _ => pd_int) (by decide))) (PB.ofF (pf_lst pds_nil)))))))
end

/-! ### _law_is_store -/
def s_law_is_store : Stmt := topS 38
theorem sc_law_is_store : FnScope [(Str.ofString "schema"), (Str.ofString "thing"), (Str.ofString "some"), (Str.ofString "things"), (Str.ofString "name"), (Str.ofString "places"), (Str.ofString "rows"), (Str.ofString "row"), (Str.ofString "one"), (Str.ofString "place")] [(Str.ofString "schema"), (Str.ofString "thing")] (defScope s_law_is_store) := ⟨rfl, rfl, rfl, by decide +kernel, rfl, by decide +kernel, by decide +kernel⟩
noncomputable def m_law_is_store : Sd := (sSeq (sIf (mOr (mNot (mT (mIsi isTup (mBor 1)))) (mOr (mT (mOp neD (mCallB lenF (mCons (mBor 1) mNil)) (Rd.ok (.int 3)))) (mOr (mNot (mT (mIsi isStr (mOp ixD (mBor 1) (Rd.ok (.int 0)))))) (mT (mOp neD (mOp ixD (mBor 1) (Rd.ok (.int 0))) (Rd.ok (.str (Str.ofString "store")))))))) (sRet (Rd.ok (.bool false))) sNx)
 (sSeq (sIf (mOr (mNot (mT (mIsi isTup (mOp ixD (mBor 1) (Rd.ok (.int 1)))))) (mOr (mT (mOp neD (mCallB lenF (mCons (mOp ixD (mBor 1) (Rd.ok (.int 1))) mNil)) (mCallB lenF (mCons (mOp ixD (mBor 0) (Rd.ok (.int 1))) mNil)))) (mOr (mNot (mT (mIsi isTup (mOp ixD (mBor 1) (Rd.ok (.int 2)))))) (mT (mOp neD (mCallB lenF (mCons (mOp ixD (mBor 1) (Rd.ok (.int 2))) mNil)) (mCallB lenF (mCons (mOp ixD (mBor 0) (Rd.ok (.int 2))) mNil))))))) (sRet (Rd.ok (.bool false))) sNx)
 (sSeq (sFor (mIt (mOp ixD (mBor 1) (Rd.ok (.int 1)))) (tgN 2) (sIf (mOr (mNot (mT (mCallZ f_law_are_numbers (aD (mVar 2) aNil)))) (mT (mOp neD (mCallB lstF (mCons (mBor 2) mNil)) (mCallB sortY (mCons (mCallB dictXF (mCons (mLc (mIt (mBor 2)) (tgN 8) mYes (mTup (mCons (mVar 8) (mCons (Rd.ok (.int 1)) mNil))) [8]) mNil)) mNil))))) (sRet (Rd.ok (.bool false))) sNx))
 (sSeq (sSet 3 (vF (mCallB dictZipF (mCons (mOp ixD (mBor 0) (Rd.ok (.int 1))) (mCons (mOp ixD (mBor 1) (Rd.ok (.int 1))) mNil)))))
 (sSeq (sFor (mZip (mOp ixD (mBor 0) (Rd.ok (.int 2))) (mOp ixD (mBor 1) (Rd.ok (.int 2)))) (tgT 2 (tgCons (tgT 2 (tgCons (tgN 4) (tgCons (tgN 5) tgNil))) (tgCons (tgN 6) tgNil))) (sSeq (sIf (mNot (mT (mIsi isTup (mBor 6)))) (sRet (Rd.ok (.bool false))) sNx)
 (sSeq (sFor (mIt (mVar 6)) (tgN 7) (sIf (mOr (mNot (mT (mCallZ f_law_are_numbers (aD (mVar 7) aNil)))) (mOr (mT (mOp neD (mCallB lenF (mCons (mBor 7) mNil)) (mCallB lenF (mCons (mBor 5) mNil)))) (mT (mOp neD (mLc (mZip (mBor 5) (mBor 7)) (tgT 2 (tgCons (tgN 9) (tgCons (tgN 8) tgNil))) (mT (mOp ninD (mBor 8) (mOp ixD (mBor 3) (mBor 9)))) (Rd.ok (.int 1)) [9, 8]) (mLst mNil))))) (sRet (Rd.ok (.bool false))) sNx))
 (sIf (mT (mOp neD (mCallB lstF (mCons (mBor 6) mNil)) (mCallB sortY (mCons (mCallB dictXF (mCons (mLc (mIt (mBor 6)) (tgN 7) mYes (mTup (mCons (mVar 7) (mCons (Rd.ok (.int 1)) mNil))) [7]) mNil)) mNil)))) (sRet (Rd.ok (.bool false))) sNx))))
 (sRet (Rd.ok (.bool true))))))))
noncomputable def f_law_is_store : Fd := fnD 10 m_law_is_store
section
variable {P : Program} {w : World} {K : PySem.W.Frag} {mg : Str → Option Value} {base : Heap} {f : Addr} {fd : FuncData}
theorem ok_law_is_store (F : Fun K (Str.ofString "_law_is_store") (Str.ofString "_law_is_store") s_law_is_store f fd) (g_dict : mg (Str.ofString "dict") = none) (g_isinstance : mg (Str.ofString "isinstance") = none) (g_len : mg (Str.ofString "len") = none) (g_list : mg (Str.ofString "list") = none) (g_sorted : mg (Str.ofString "sorted") = none) (g_str : mg (Str.ofString "str") = none) (g_tuple : mg (Str.ofString "tuple") = none) (g_zip : mg (Str.ofString "zip") = none) (k_law_are_numbers : Kn P w K mg base 1 (Str.ofString "_law_are_numbers") 1 f_law_are_numbers) : FnG P w K mg base CX0 2 f fd [(Str.ofString "schema"), (Str.ofString "thing")] (Prom K mg 2 f_law_is_store) := by
  refine Fun.z (N := [(Str.ofString "schema"), (Str.ofString "thing"), (Str.ofString "some"), (Str.ofString "things"), (Str.ofString "name"), (Str.ofString "places"), (Str.ofString "rows"), (Str.ofString "row"), (Str.ofString "one"), (Str.ofString "place")]) (k := 1) (m := m_law_is_store) F sc_law_is_store rfl fun cdv A stk s H E B hr hg => ?_
  have hu0 : (A.deeper (envOfC (Str.ofString "_law_is_store") (defScope s_law_is_store) s.heap.objs.size f cdv)).units < cLine := by have := hr.un; omega
  have hu1 : (A.deeper (envOfC (Str.ofString "_law_is_store") (defScope s_law_is_store) s.heap.objs.size f cdv)).units + 1 < cLine := by have := hr.un; omega
  have hu64 : (A.deeper (envOfC (Str.ofString "_law_is_store") (defScope s_law_is_store) s.heap.objs.size f cdv)).units + 64 < cLine := by have := hr.un; omega
  have hu65 : (A.deeper (envOfC (Str.ofString "_law_is_store") (defScope s_law_is_store) s.heap.objs.size f cdv)).units + 65 < cLine := by have := hr.un; omega
  have hu70 : (A.deeper (envOfC (Str.ofString "_law_is_store") (defScope s_law_is_store) s.heap.objs.size f cdv)).units + 70 < cLine := by have := hr.un; omega
  have hgu : (A.deeper (envOfC (Str.ofString "_law_is_store") (defScope s_law_is_store) s.heap.objs.size f cdv)).guards = some [] := hg
  have SC := sc_law_is_store
  delta m_law_is_store
  exact (pssd_cons (psd_if (PTs'.of (ptw_or (pt_not' (pt_d (pd_isi kit_tup rfl rfl g_isinstance rfl g_tuple bt_tuple (pb_bor 1)))) (ptw_or (pt_cmp' (o_ne rfl hu64) (PB.of (pd_callB (f_len rfl) rfl g_len bt_len (pbs_cons (pb_bor 1) pbs_nil))) (PB.of pd_int)) (ptw_or (pt_not' (pt_d (pd_isi kit_str rfl rfl g_isinstance rfl g_str bt_str (PB.of (pd_ix rfl hu1 (pb_bor 1) (PB.of pd_int)))))) (ptw_or1 (pt_cmp' (o_ne rfl hu64) (PB.of (pd_ix rfl hu1 (pb_bor 1) (PB.of pd_int))) (PB.of pd_str))))))) (pssd_one (psd_ret pd_bl)) pssd_nil)
 (pssd_cons (psd_if (PTs'.of (ptw_or (pt_not' (pt_d (pd_isi kit_tup rfl rfl g_isinstance rfl g_tuple bt_tuple (PB.of (pd_ix rfl hu1 (pb_bor 1) (PB.of pd_int)))))) (ptw_or (pt_cmp' (o_ne rfl hu64) (PB.of (pd_callB (f_len rfl) rfl g_len bt_len (pbs_cons (PB.of (pd_ix rfl hu1 (pb_bor 1) (PB.of pd_int))) pbs_nil))) (PB.of (pd_callB (f_len rfl) rfl g_len bt_len (pbs_cons (PB.of (pd_ix rfl hu1 (pb_bor 0) (PB.of pd_int))) pbs_nil)))) (ptw_or (pt_not' (pt_d (pd_isi kit_tup rfl rfl g_isinstance rfl g_tuple bt_tuple (PB.of (pd_ix rfl hu1 (pb_bor 1) (PB.of pd_int)))))) (ptw_or1 (pt_cmp' (o_ne rfl hu64) (PB.of (pd_callB (f_len rfl) rfl g_len bt_len (pbs_cons (PB.of (pd_ix rfl hu1 (pb_bor 1) (PB.of pd_int))) pbs_nil))) (PB.of (pd_callB (f_len rfl) rfl g_len bt_len (pbs_cons (PB.of (pd_ix rfl hu1 (pb_bor 0) (PB.of pd_int))) pbs_nil))))))))) (pssd_one (psd_ret pd_bl)) pssd_nil)
 (pssd_cons (psd_for PassesOwn.never rfl (pis_sq rfl (PM.D (pd_ix rfl hu1 (pb_bor 1) (PB.of pd_int)))) (pgd_name 2 SC.nd) (pssd_one (psd_if (PTs'.of (ptw_or (pt_not' (pt_d (pd_callZ hr hgu (k_law_are_numbers.kn (by decide)) (pas_d (pd_var 2) pas_nil)))) (ptw_or1 (pt_cmp' (o_ne rfl hu64) (PB.ofF (pf_callTy (f_lst rfl rfl) rfl g_list bt_list (pbs_cons (pb_bor 2) pbs_nil))) (PB.ofF (pf_callB (f_sortY rfl rfl hu70) rfl g_sorted bt_sorted (pbs_cons (PB.ofF (pf_callTy (f_dictX rfl rfl hu70) rfl g_dict bt_dict (pbs_cons (PB.ofF (pf_lc [((Str.ofString "one"), 8)] rfl SC.nd (pis_sq rfl (PM.B (pb_bor 2))) (blkOk_by (by first | rfl | with_unfolding_all rfl)) (fun _ _ _ _ _ => (pgd_name 8 SC.nd)) (fun _ _ _ _ _ => ptsd_nil) (fun _ _ _ _ _ => (pd_tup (pds_cons (pd_var 8) (pds_cons pd_int pds_nil)))) (by decide))) pbs_nil))) pbs_nil))))))) (pssd_one (psd_ret pd_bl)) pssd_nil)))
 (pssd_cons (psd_set 3 SC.nd (PV.F (pf_dictZip rfl rfl rfl g_dict rfl g_zip (pbs_cons (PB.of (pd_ix rfl hu1 (pb_bor 0) (PB.of pd_int))) (pbs_cons (PB.of (pd_ix rfl hu1 (pb_bor 1) (PB.of pd_int))) pbs_nil)))))
 (pssd_cons (psd_for PassesOwn.never rfl (pis_zip rfl rfl g_zip (PM.D (pd_ix rfl hu1 (pb_bor 0) (PB.of pd_int))) (PM.D (pd_ix rfl hu1 (pb_bor 1) (PB.of pd_int)))) (pgd_tup rfl rfl (pgsd_cons (pgd_tup rfl rfl (pgsd_cons (pgd_name 4 SC.nd) (pgsd_cons (pgd_name 5 SC.nd) pgsd_nil))) (pgsd_cons (pgd_name 6 SC.nd) pgsd_nil))) (pssd_cons (psd_if (pt_not' (pt_d (pd_isi kit_tup rfl rfl g_isinstance rfl g_tuple bt_tuple (pb_bor 6)))) (pssd_one (psd_ret pd_bl)) pssd_nil)
 (pssd_cons (psd_for PassesOwn.never rfl (pis_sq rfl (PM.D (pd_var 6))) (pgd_name 7 SC.nd) (pssd_one (psd_if (PTs'.of (ptw_or (pt_not' (pt_d (pd_callZ hr hgu (k_law_are_numbers.kn (by decide)) (pas_d (pd_var 7) pas_nil)))) (ptw_or (pt_cmp' (o_ne rfl hu64) (PB.of (pd_callB (f_len rfl) rfl g_len bt_len (pbs_cons (pb_bor 7) pbs_nil))) (PB.of (pd_callB (f_len rfl) rfl g_len bt_len (pbs_cons (pb_bor 5) pbs_nil)))) (ptw_or1 (pt_cmp' (o_ne rfl hu64) (PB.ofF (pf_lc [((Str.ofString "place"), 9), ((Str.ofString "one"), 8)] rfl SC.nd (pis_zip rfl rfl g_zip (PM.B (pb_bor 5)) (PM.B (pb_bor 7))) (blkOk_by (by first | rfl | with_unfolding_all rfl)) (fun _ _ _ _ _ => (pgd_tup rfl rfl (pgsd_cons (pgd_name 9 SC.nd) (pgsd_cons (pgd_name 8 SC.nd) pgsd_nil)))) (fun _ _ _ _ _ => (ptsd_one (pt_cmp' (o_nin rfl hu65) (pb_bor 8) (PB.of (pd_ix rfl hu1 (pb_bor 3) (pb_bor 9)))))) (fun _ _ _ _ _ => pd_int) (by decide))) (PB.ofF (pf_lst pds_nil))))))) (pssd_one (psd_ret pd_bl)) pssd_nil)))
 (pssd_one (psd_if (pt_cmp' (o_ne rfl hu64) (PB.ofF (pf_callTy (f_lst rfl rfl) rfl g_list bt_list (pbs_cons (pb_bor 6) pbs_nil))) (PB.ofF (pf_callB (f_sortY rfl rfl hu70) rfl g_sorted bt_sorted (pbs_cons (PB.ofF (pf_callTy (f_dictX rfl rfl hu70) rfl g_dict bt_dict (pbs_cons (PB.ofF (pf_lc [((Str.ofString "row"), 7)] rfl SC.nd (pis_sq rfl (PM.B (pb_bor 6))) (blkOk_by (by first | rfl | with_unfolding_all rfl)) (fun _ _ _ _ _ => (pgd_name 7 SC.nd)) (fun _ _ _ _ _ => ptsd_nil) (fun _ _ _ _ _ => (pd_tup (pds_cons (pd_var 7) (pds_cons pd_int pds_nil)))) (by decide))) pbs_nil))) pbs_nil)))) (pssd_one (psd_ret pd_bl)) pssd_nil)))))
 (pssd_one (psd_ret pd_bl)))))))
end

/-! ### law -/
def s_law : Stmt := topS 39
theorem sc_law : FnScope [(Str.ofString "script"), (Str.ofString "state"), (Str.ofString "told"), (Str.ofString "turn"), (Str.ofString "schema"), (Str.ofString "store"), (Str.ofString "some"), (Str.ofString "value"), (Str.ofString "one"), (Str.ofString "rows"), (Str.ofString "lap")] [(Str.ofString "script")] (defScope s_law) := ⟨rfl, rfl, rfl, by decide +kernel, rfl, by decide +kernel, by decide +kernel⟩
noncomputable def m_law : Sd := (sSeq (sSet 2 (vD (mTup (mCons (Rd.ok (.str (Str.ofString "schema"))) (mCons (mTup (mCons (Rd.ok (.str (Str.ofString "a"))) mNil)) (mCons (mTup (mCons (mTup (mCons (Rd.ok (.str (Str.ofString "likes"))) (mCons (mTup (mCons (Rd.ok (.str (Str.ofString "a"))) (mCons (Rd.ok (.str (Str.ofString "a"))) mNil))) mNil))) mNil)) mNil))))))
 (sSeq (sIf (mOr (mT (mOp isNB (mCallZ f_is_store (aD (mVar 2) (aD (mTup (mCons (Rd.ok (.str (Str.ofString "store"))) (mCons (mTup (mCons (mTup (mCons (Rd.ok (.int 0)) (mCons (Rd.ok (.int 1)) mNil))) mNil)) (mCons (mTup (mCons (mTup (mCons (mTup (mCons (Rd.ok (.int 0)) (mCons (Rd.ok (.int 1)) mNil))) mNil)) mNil)) mNil)))) aNil))) (Rd.ok (.bool true)))) (mOr (mT (mOp isNB (mCallZ f_is_store (aD (mVar 2) (aD (mTup (mCons (Rd.ok (.str (Str.ofString "store"))) (mCons (mTup (mCons (mTup (mCons (Rd.ok (.int 0)) mNil)) mNil)) (mCons (mTup (mCons (mTup (mCons (mTup (mCons (Rd.ok (.int 0)) (mCons (Rd.ok (.int 1)) mNil))) mNil)) mNil)) mNil)))) aNil))) (Rd.ok (.bool false)))) (mT (mOp neD (mCallZ f_empty_store (aD (mVar 2) aNil)) (mTup (mCons (Rd.ok (.str (Str.ofString "store"))) (mCons (mTup (mCons (mTup mNil) mNil)) (mCons (mTup (mCons (mTup mNil) mNil)) mNil)))))))) (sRet (Rd.ok (.bool false))) sNx)
 (sSeq (sFor (mRange1 (mOp addD (Rd.ok (.int 6)) (mCallB min2F (mCons (mLenS 0) (mCons (Rd.ok (.int 8)) mNil))))) (tgN 3) (sSeq (sSet 4 (vD (mCallZ f_law_schema (aSt 1 aNil))))
 (sSeq (sSet 5 (vD (mCallZ f_law_store (aSt 1 (aD (mVar 4) (aD (Rd.ok (.int 4)) aNil))))))
 (sSeq (sSet 6 (vF (mLst (mCons (mVar 5) (mCons (mTup (mCons (Rd.ok (.str (Str.ofString "store"))) (mCons (mCallB tupF (mCons (mLc (mIt (mOp ixD (mBor 5) (Rd.ok (.int 1)))) (tgN 8) mYes (mUn revD (mBor 8)) [8]) mNil)) (mCons (mOp ixD (mBor 5) (Rd.ok (.int 2))) mNil)))) (mCons (mTup (mCons (Rd.ok (.str (Str.ofString "store"))) (mCons (mOp ixD (mBor 5) (Rd.ok (.int 1))) (mCons (mCallB tupF (mCons (mLc (mIt (mOp ixD (mBor 5) (Rd.ok (.int 2)))) (tgN 9) mYes (mUn revD (mBor 9)) [9]) mNil)) mNil)))) (mCons (mTup (mCons (Rd.ok (.str (Str.ofString "store"))) (mCons (mCallB tupF (mCons (mLc (mIt (mOp ixD (mBor 5) (Rd.ok (.int 1)))) (tgN 8) mYes (mSl (mBor 8) (some (Rd.ok (.int 1))) none) [8]) mNil)) (mCons (mOp ixD (mBor 5) (Rd.ok (.int 2))) mNil)))) mNil)))))))
 (sSeq (sFor (mIt (mOp catD (mBor 6) (mLc (mRange1 (Rd.ok (.int 8))) (tgN 10) mYes (mCallZ f_law_near (aSt 1 (aD (mVar 5) aNil))) [10]))) (tgN 7) (sIf (mOr (mNot (mT (mCallZ f_law_says (aD (mCallZ f_is_store (aD (mVar 4) (aD (mVar 7) aNil))) (aD (mCallZ f_law_is_store (aD (mVar 4) (aD (mVar 7) aNil))) aNil))))) (mNot (mT (mCallZ f_law_says (aD (mCallKZ f_is_store [1, 0] aNil (aD (mVar 7) (aD (mVar 4) aNil))) (aD (mCallZ f_law_is_store (aD (mVar 4) (aD (mVar 7) aNil))) aNil)))))) (sRet (Rd.ok (.bool false))) sNx))
 (sIf (mOr (mNot (mT (mCallZ f_law_is (aD (mCallZ f_empty_store (aD (mVar 4) aNil)) (aD (mTup (mCons (Rd.ok (.str (Str.ofString "store"))) (mCons (mOp mulXD (mTup (mCons (mTup mNil) mNil)) (mCallB lenF (mCons (mOp ixD (mBor 4) (Rd.ok (.int 1))) mNil))) (mCons (mOp mulXD (mTup (mCons (mTup mNil) mNil)) (mCallB lenF (mCons (mOp ixD (mBor 4) (Rd.ok (.int 2))) mNil))) mNil)))) aNil))))) (mT (mOp isNB (mCallZ f_is_store (aD (mVar 4) (aD (mCallKZ f_empty_store [0] aNil (aD (mVar 4) aNil)) aNil))) (Rd.ok (.bool true))))) (sRet (Rd.ok (.bool false))) sNx))))))
 (sRet (Rd.ok (.bool true))))))
section
variable {P : Program} {w : World} {K : PySem.W.Frag} {mg : Str → Option Value} {base : Heap} {f : Addr} {fd : FuncData}
theorem bd_law  (g_len : mg (Str.ofString "len") = none) (g_min : mg (Str.ofString "min") = none) (g_range : mg (Str.ofString "range") = none) (g_tuple : mg (Str.ofString "tuple") = none) (k_law_is : Kn P w K mg base 8 (Str.ofString "_law_is") 2 f_law_is) (k_law_is_store : Kn P w K mg base 2 (Str.ofString "_law_is_store") 2 f_law_is_store) (k_law_near : Kn P w K mg base 9 (Str.ofString "_law_near") 2 f_law_near) (k_law_says : Kn P w K mg base 1 (Str.ofString "_law_says") 2 f_law_says) (k_law_schema : Kn P w K mg base 4 (Str.ofString "_law_schema") 1 f_law_schema) (k_law_store : Kn P w K mg base 4 (Str.ofString "_law_store") 3 f_law_store) (k_empty_store : Kn P w K mg base 6 (Str.ofString "empty_store") 1 f_empty_store) (k_is_store : Kn P w K mg base 6 (Str.ofString "is_store") 2 f_is_store) (kk_empty_store_0_schema : KnK P w K mg base 6 (Str.ofString "empty_store") 1 0 [(Str.ofString "schema")] [0] f_empty_store) (kk_is_store_0_thing_schema : KnK P w K mg base 6 (Str.ofString "is_store") 2 0 [(Str.ofString "thing"), (Str.ofString "schema")] [1, 0] f_is_store) {cdv : Value} {A : Around} {stk : List Env} {s : Shared} {H : Hp} {E : XK} {B : Amb} (hr : Room 9 (A.deeper (envOfC (Str.ofString "law") (defScope s_law) s.heap.objs.size f cdv))) (hg : A.guards = some []) :
    PSsd (Bod P w K mg base [(Str.ofString "script"), (Str.ofString "state"), (Str.ofString "told"), (Str.ofString "turn"), (Str.ofString "schema"), (Str.ofString "store"), (Str.ofString "some"), (Str.ofString "value"), (Str.ofString "one"), (Str.ofString "rows"), (Str.ofString "lap")] (Str.ofString "law") s_law f cdv A stk s H E) ⟨K, mg, B, noX⟩ ((defBody s_law).drop 1) m_law := by
  have hu0 : (A.deeper (envOfC (Str.ofString "law") (defScope s_law) s.heap.objs.size f cdv)).units < cLine := by have := hr.un; omega
  have hu1 : (A.deeper (envOfC (Str.ofString "law") (defScope s_law) s.heap.objs.size f cdv)).units + 1 < cLine := by have := hr.un; omega
  have hu64 : (A.deeper (envOfC (Str.ofString "law") (defScope s_law) s.heap.objs.size f cdv)).units + 64 < cLine := by have := hr.un; omega
  have hu65 : (A.deeper (envOfC (Str.ofString "law") (defScope s_law) s.heap.objs.size f cdv)).units + 65 < cLine := by have := hr.un; omega
  have hu70 : (A.deeper (envOfC (Str.ofString "law") (defScope s_law) s.heap.objs.size f cdv)).units + 70 < cLine := by have := hr.un; omega
  have hgu : (A.deeper (envOfC (Str.ofString "law") (defScope s_law) s.heap.objs.size f cdv)).guards = some [] := hg
  have SC := sc_law
  delta m_law
  exact (pssd_cons (psd_set 2 SC.nd (PV.D (pd_tup (pds_cons pd_str (pds_cons (pd_tup (pds_cons pd_str pds_nil)) (pds_cons (pd_tup (pds_cons (pd_tup (pds_cons pd_str (pds_cons (pd_tup (pds_cons pd_str (pds_cons pd_str pds_nil))) pds_nil))) pds_nil)) pds_nil))))))
 (pssd_cons (psd_if (PTs'.of (ptw_or (pt_cmp' o_isNB (PB.of (pd_callZ hr hgu (k_is_store.kn (by decide)) (pas_d (pd_var 2) (pas_d (pd_tup (pds_cons pd_str (pds_cons (pd_tup (pds_cons (pd_tup (pds_cons pd_int (pds_cons pd_int pds_nil))) pds_nil)) (pds_cons (pd_tup (pds_cons (pd_tup (pds_cons (pd_tup (pds_cons pd_int (pds_cons pd_int pds_nil))) pds_nil)) pds_nil)) pds_nil)))) pas_nil)))) (PB.of pd_bl)) (ptw_or (pt_cmp' o_isNB (PB.of (pd_callZ hr hgu (k_is_store.kn (by decide)) (pas_d (pd_var 2) (pas_d (pd_tup (pds_cons pd_str (pds_cons (pd_tup (pds_cons (pd_tup (pds_cons pd_int pds_nil)) pds_nil)) (pds_cons (pd_tup (pds_cons (pd_tup (pds_cons (pd_tup (pds_cons pd_int (pds_cons pd_int pds_nil))) pds_nil)) pds_nil)) pds_nil)))) pas_nil)))) (PB.of pd_bl)) (ptw_or1 (pt_cmp' (o_ne rfl hu64) (PB.of (pd_callZ hr hgu (k_empty_store.kn (by decide)) (pas_d (pd_var 2) pas_nil))) (PB.of (pd_tup (pds_cons pd_str (pds_cons (pd_tup (pds_cons (pd_tup pds_nil) pds_nil)) (pds_cons (pd_tup (pds_cons (pd_tup pds_nil) pds_nil)) pds_nil)))))))))) (pssd_one (psd_ret pd_bl)) pssd_nil)
 (pssd_cons (psd_for PassesOwn.never rfl (pis_range1 rfl g_range (PB.of (pd_bin (o_add rfl) (PB.of pd_int) (PB.of (pd_callB (f_min2 rfl) rfl g_min bt_min (pbs_cons (PB.of (pd_lenS 0 rfl rfl g_len)) (pbs_cons (PB.of pd_int) pbs_nil))))))) (pgd_name 3 SC.nd) (pssd_cons (psd_set 4 SC.nd (PV.D (pd_callZ hr hgu (k_law_schema.kn (by decide)) (pas_st 1 pas_nil))))
 (pssd_cons (psd_set 5 SC.nd (PV.D (pd_callZ hr hgu (k_law_store.kn (by decide)) (pas_st 1 (pas_d (pd_var 4) (pas_d pd_int pas_nil))))))
 (pssd_cons (psd_set 6 SC.nd (PV.F (pf_lst (pds_cons (pd_var 5) (pds_cons (pd_tup (pds_cons pd_str (pds_cons (pd_callTy (f_tup rfl) rfl g_tuple bt_tuple (pbs_cons (PB.ofF (pf_lc [((Str.ofString "one"), 8)] rfl SC.nd (pis_sq rfl (PM.B (PB.of (pd_ix rfl hu1 (pb_bor 5) (PB.of pd_int))))) (blkOk_by (by first | rfl | with_unfolding_all rfl)) (fun _ _ _ _ _ => (pgd_name 8 SC.nd)) (fun _ _ _ _ _ => ptsd_nil) (fun _ _ _ _ _ => (pd_rev rfl (pb_bor 8))) (by decide))) pbs_nil)) (pds_cons (pd_ix rfl hu1 (pb_bor 5) (PB.of pd_int)) pds_nil)))) (pds_cons (pd_tup (pds_cons pd_str (pds_cons (pd_ix rfl hu1 (pb_bor 5) (PB.of pd_int)) (pds_cons (pd_callTy (f_tup rfl) rfl g_tuple bt_tuple (pbs_cons (PB.ofF (pf_lc [((Str.ofString "rows"), 9)] rfl SC.nd (pis_sq rfl (PM.B (PB.of (pd_ix rfl hu1 (pb_bor 5) (PB.of pd_int))))) (blkOk_by (by first | rfl | with_unfolding_all rfl)) (fun _ _ _ _ _ => (pgd_name 9 SC.nd)) (fun _ _ _ _ _ => ptsd_nil) (fun _ _ _ _ _ => (pd_rev rfl (pb_bor 9))) (by decide))) pbs_nil)) pds_nil)))) (pds_cons (pd_tup (pds_cons pd_str (pds_cons (pd_callTy (f_tup rfl) rfl g_tuple bt_tuple (pbs_cons (PB.ofF (pf_lc [((Str.ofString "one"), 8)] rfl SC.nd (pis_sq rfl (PM.B (PB.of (pd_ix rfl hu1 (pb_bor 5) (PB.of pd_int))))) (blkOk_by (by first | rfl | with_unfolding_all rfl)) (fun _ _ _ _ _ => (pgd_name 8 SC.nd)) (fun _ _ _ _ _ => ptsd_nil) (fun _ _ _ _ _ => (pd_sl rfl (pb_bor 8) (po_so (PB.of pd_int)) po_no)) (by decide))) pbs_nil)) (pds_cons (pd_ix rfl hu1 (pb_bor 5) (PB.of pd_int)) pds_nil)))) pds_nil)))))))
 (pssd_cons (psd_for PassesOwn.never rfl (pis_sq rfl (PM.D (PD.of (pf_bin o_cat (pb_bor 6) (PB.ofF (pf_lc [((Str.ofString "lap"), 10)] rfl SC.nd (pis_range1 rfl g_range (PB.of pd_int)) (blkOk_by (by first | rfl | with_unfolding_all rfl)) (fun _ _ _ _ _ => (pgd_name 10 SC.nd)) (fun _ _ _ _ _ => ptsd_nil) (fun _ _ _ _ _ => (pd_callZ hr hgu (k_law_near.kn (by decide)) (pas_st 1 (pas_d (pd_var 5) pas_nil)))) (by decide))))))) (pgd_name 7 SC.nd) (pssd_one (psd_if (PTs'.of (ptw_or (pt_not' (pt_d (pd_callZ hr hgu (k_law_says.kn (by decide)) (pas_d (pd_callZ hr hgu (k_is_store.kn (by decide)) (pas_d (pd_var 4) (pas_d (pd_var 7) pas_nil))) (pas_d (pd_callZ hr hgu (k_law_is_store.kn (by decide)) (pas_d (pd_var 4) (pas_d (pd_var 7) pas_nil))) pas_nil))))) (ptw_or1 (pt_not' (pt_d (pd_callZ hr hgu (k_law_says.kn (by decide)) (pas_d (pd_callKZ0 hr hgu (kk_is_store_0_thing_schema.kn (by decide)) (pks_d (pd_var 7) (pks_d (pd_var 4) pks_nil))) (pas_d (pd_callZ hr hgu (k_law_is_store.kn (by decide)) (pas_d (pd_var 4) (pas_d (pd_var 7) pas_nil))) pas_nil)))))))) (pssd_one (psd_ret pd_bl)) pssd_nil)))
 (pssd_one (psd_if (PTs'.of (ptw_or (pt_not' (pt_d (pd_callZ hr hgu (k_law_is.kn (by decide)) (pas_d (pd_callZ hr hgu (k_empty_store.kn (by decide)) (pas_d (pd_var 4) pas_nil)) (pas_d (pd_tup (pds_cons pd_str (pds_cons (pd_bin (o_mulX rfl) (PB.of (pd_tup (pds_cons (pd_tup pds_nil) pds_nil))) (PB.of (pd_callB (f_len rfl) rfl g_len bt_len (pbs_cons (PB.of (pd_ix rfl hu1 (pb_bor 4) (PB.of pd_int))) pbs_nil)))) (pds_cons (pd_bin (o_mulX rfl) (PB.of (pd_tup (pds_cons (pd_tup pds_nil) pds_nil))) (PB.of (pd_callB (f_len rfl) rfl g_len bt_len (pbs_cons (PB.of (pd_ix rfl hu1 (pb_bor 4) (PB.of pd_int))) pbs_nil)))) pds_nil)))) pas_nil))))) (ptw_or1 (pt_cmp' o_isNB (PB.of (pd_callZ hr hgu (k_is_store.kn (by decide)) (pas_d (pd_var 4) (pas_d (pd_callKZ0 hr hgu (kk_empty_store_0_schema.kn (by decide)) (pks_d (pd_var 4) pks_nil)) pas_nil)))) (PB.of pd_bl))))) (pssd_one (psd_ret pd_bl)) pssd_nil)))))))
 (pssd_one (psd_ret pd_bl)))))
end

end Zd

set_option maxRecDepth 100000
set_option maxHeartbeats 4000000
namespace Zd
open PySem PySem.Spec L2
open PyProof.Rows hiding St

/-! ### k59: the schema -/
structure Sch where
  ss : List Str
  rs : List (Str × List Str)
abbrev Rl := Str × List Str
def strL (l : List Str) : List PyData := l.map .str
def relD (r : Rl) : PyData := .tuple [.str r.1, .tuple (strL r.2)]
def schD (S : Sch) : PyData := .tuple [.str (Str.ofString "schema"), .tuple (strL S.ss), .tuple (S.rs.map relD)]
def sss : List (List Str) := [[Str.ofString "p"], [Str.ofString "p", Str.ofString "q"], [Str.ofString "dog", Str.ofString "man"], [Str.ofString "a"]]
def rnm : List Str := [Str.ofString "likes", Str.ofString "r", Str.ofString "s", Str.ofString "u"]
def cuts : List (List Str) := [rnm.take 1, rnm.take 2, rnm.take 3, (rnm.drop 1).take 1, (rnm.drop 1).take 2, (rnm.drop 1).take 3]
def plc (ss : List Str) : List (List Str) := ss.map (fun a => [a]) ++ ss.flatMap fun a => ss.map fun b => [a, b]
structure SOk (S : Sch) : Prop where
  s : S.ss ∈ sss
  n : S.rs.map (·.1) ∈ cuts
  p : ∀ r ∈ S.rs, r.1 ∈ rnm ∧ r.2 ∈ plc S.ss
theorem rel_ok : ∀ {ss : List Str}, ss ∈ sss → ∀ {nm : Str}, nm ∈ rnm → ∀ {pl : List Str}, pl ∈ plc ss → ∀ (G : Rng), f_is_relation [.d (.tuple (strL ss)), .d (relD (nm, pl))] G = some (.ret (.bool true), G) := by
  intro ss hs nm hn pl hp G
  unfold sss at hs
  unfold rnm at hn
  unfold plc at hp
  simp only [List.mem_cons, List.not_mem_nil, or_false] at hs hn
  rcases hs with rfl | rfl | rfl | rfl <;>
  simp only [List.map_cons, List.map_nil, List.flatMap_cons, List.flatMap_nil, List.append_nil, List.cons_append, List.nil_append, List.mem_cons, List.not_mem_nil, or_false] at hp <;>
  rcases hn with rfl | rfl | rfl | rfl <;>
  (first | (rcases hp with rfl | rfl | rfl | rfl | rfl | rfl) | (rcases hp with rfl | rfl))
  all_goals kernel_rfl
theorem nms_ok : ∀ {ss : List Str}, ss ∈ sss → ∀ (G : Rng), f_are_names [.d (.tuple (strL ss)), .d (.int 2)] G = some (.ret (.bool true), G) ∧ f_are_rising [.d (.tuple (strL ss))] G = some (.ret (.bool true), G) ∧ eqD (.tuple (strL ss)) (.tuple []) = some (.bool false) := by
  intro ss hs G
  unfold sss at hs
  simp only [List.mem_cons, List.not_mem_nil, or_false] at hs
  rcases hs with rfl | rfl | rfl | rfl
  all_goals exact ⟨by kernel_rfl, by kernel_rfl, by kernel_rfl⟩
theorem cut_ok : ∀ {ss : List Str}, ss ∈ sss → ∀ {l : List Str}, l ∈ cuts → ∀ (G : Rng), f_are_rising [.d (.list (strL l))] G = some (.ret (.bool true), G) ∧ 1 ≤ l.length ∧ l.length ≤ 3 ∧ l.Nodup ∧ ∀ z ∈ l, ninD (.str z) (.tuple (strL ss)) = some (.bool true) := by
  intro ss hs l hl G
  unfold sss at hs
  unfold cuts at hl
  simp only [List.mem_cons, List.not_mem_nil, or_false] at hs hl
  have h1 : f_are_rising [.d (.list (strL l))] G = some (.ret (.bool true), G) := by rcases hl with rfl | rfl | rfl | rfl | rfl | rfl <;> kernel_rfl
  have h2 : 1 ≤ l.length ∧ l.length ≤ 3 ∧ l.Nodup := by rcases hl with rfl | rfl | rfl | rfl | rfl | rfl <;> decide +kernel
  have h3 : ∀ z ∈ l, z ∈ rnm := by rcases hl with rfl | rfl | rfl | rfl | rfl | rfl <;> decide +kernel
  refine ⟨h1, h2.1, h2.2.1, h2.2.2, fun z hz => ?_⟩
  have h4 := h3 z hz
  unfold rnm at h4
  simp only [List.mem_cons, List.not_mem_nil, or_false] at h4
  rcases hs with rfl | rfl | rfl | rfl <;> rcases h4 with rfl | rfl | rfl | rfl <;> kernel_rfl
theorem SOk.lr {S : Sch} (h : SOk S) : 1 ≤ S.rs.length ∧ S.rs.length ≤ 3 ∧ (S.rs.map (·.1)).Nodup := by
  obtain ⟨_, h1, h2, h3, _⟩ := cut_ok h.s h.n ⟨[], [], 0, 0⟩
  rw [List.length_map] at h1 h2
  exact ⟨h1, h2, h3⟩
theorem SOk.ls {S : Sch} (h : SOk S) : 1 ≤ S.ss.length ∧ S.ss.length ≤ 2 ∧ S.ss.Nodup := by
  have := h.s
  unfold sss at this
  simp only [List.mem_cons, List.not_mem_nil, or_false] at this
  rcases this with e | e | e | e <;> rw [e] <;> decide +kernel
theorem all_ok {β : Type} {e : β → PyData} {mi : Rd (List PyData)} {f : Tg} {te : Rd PyData} {vs : List Nat} {E : Evn} {G : Rng} {l : List β} (p : β → Bool) (h : mi E G = some (.ok (l.map e), G)) (hz : l.length ≤ 100000)
    (h2 : ∀ b ∈ l, ∃ E1, f (e b) (wipeE E vs) = some E1 ∧ te E1 G = some (.ok (.bool (p b)), G)) : mCallB allF (mCons (mLc mi f mYes te vs) mNil) E G = some (.ok (.bool (l.all p)), G) := by
  refine mCall1_ok (mLc_ok h (by rw [List.length_map]; exact hz) (lcRun_all (fun b => .bool (p b)) h2)) ?_
  have e1 : boolsOf (l.map fun b => PyData.bool (p b)) = some (l.map p) := by
    clear h hz h2
    induction l with
    | nil => rfl
    | cons b l ih => rw [List.map_cons, List.map_cons]; unfold boolsOf; rw [ih]; rfl
  unfold allF
  simp only
  rw [e1]
  simp [List.all_map]
theorem chk_ok {c : Rd Bool} {a x : Sd} {E : Evn} {G : Rng} {r : Option (Out × Rng)} (h : c E G = some (.ok false, G)) (h2 : a E G = r) : sSeq (sIf c x sNx) a E G = r := by
  rw [sSeq_nx ((sIf_false h).trans rfl)]
  exact h2
theorem nx_ok {a b : Sd} {E : Evn} {G : Rng} (E1 : Evn) {r : Option (Out × Rng)} (h : a E G = some (.nx E1, G)) (h2 : b E1 G = r) : sSeq a b E G = r := by
  rw [sSeq_nx h]
  exact h2
theorem nt_ok {E : Evn} {G : Rng} {m : Rd PyData} {d : PyData} {q : PyData → Bool} (h1 : m E G = some (.ok d, G)) : mNot (mT (mIsi q m)) E G = some (.ok (!q d), G) := by
  have : mIsi q m E G = some (.ok (.bool (q d)), G) := by unfold mIsi; rw [Rd.bind_ok h1]; rfl
  exact mNot_ok (mT_ok this)
theorem leI (i j : Int) : leD (.int i) (.int j) = some (.bool (decide (i ≤ j))) := rfl
theorem chain_ok {m1 m2 m3 : Rd PyData} {E : Evn} {G : Rng} {i j k : Int} (h1 : m1 E G = some (.ok (.int i), G)) (h2 : m2 E G = some (.ok (.int j), G)) (h3 : m3 E G = some (.ok (.int k), G)) : mChain leD leD m1 m2 m3 E G = some (.ok (.bool (decide (i ≤ j) && decide (j ≤ k))), G) := by
  unfold mChain
  rw [Rd.bind_ok h1, Rd.bind_ok h2, leI]
  rw [Rd.bind_ok (show (Rd.lift ((some (PyData.bool (decide (i ≤ j)))).bind asB) : Rd Bool) E G = some (.ok (decide (i ≤ j)), G) from rfl)]
  cases decide (i ≤ j) with
  | false => rw [if_neg (by simp)]; rfl
  | true => rw [if_pos rfl, Rd.bind_ok h3, leI]; simp [Rd.lift]
theorem or_f {a b : Rd Bool} {E : Evn} {G : Rng} {r : Option (Except Exn Bool × Rng)} (h : a E G = some (.ok false, G)) (h2 : b E G = r) : mOr a b E G = r := by
  unfold mOr
  rw [Rd.bind_ok h, if_neg (by simp)]
  exact h2
theorem or_b {a b : Rd Bool} {E : Evn} {G : Rng} {x y : Bool} (h : a E G = some (.ok x, G)) (h2 : x = false → b E G = some (.ok y, G)) : mOr a b E G = some (.ok (x || y), G) := by
  cases x with
  | false => exact or_f h (h2 rfl)
  | true => exact mOr_true h
theorem and_b {a b : Rd Bool} {E : Evn} {G : Rng} {x y : Bool} (h : a E G = some (.ok x, G)) (h2 : x = true → b E G = some (.ok y, G)) : mAnd a b E G = some (.ok (x && y), G) := by
  cases x with
  | true => exact mAnd_true h (h2 rfl)
  | false => exact mAnd_false h
theorem andV_b {m1 m2 : Rd PyData} {E : Evn} {G : Rng} {x y : Bool} (h : m1 E G = some (.ok (.bool x), G)) (h2 : x = true → m2 E G = some (.ok (.bool y), G)) : mAndV m1 m2 E G = some (.ok (.bool (x && y)), G) := by
  cases x with
  | true => exact mAndV_true h (h2 rfl)
  | false =>
    unfold mAndV
    rw [Rd.bind_ok (mT_ok h), if_neg (by simp)]
    rfl
theorem schema_ok {S : Sch} (h : SOk S) (G : Rng) : f_is_schema [.d (schD S)] G = some (.ret (.bool true), G) := by
  obtain ⟨n1, n2, n3⟩ := nms_ok h.s G
  obtain ⟨c1, c2, c3, c4, c5⟩ := cut_ok h.s h.n G
  rw [List.length_map] at c2 c3
  refine fnD_ret ?_
  have a1 : argE 8 [.d (schD S)] = [some (.d (schD S)), none, none, none, none, none, none, none] := rfl
  rw [a1]
  unfold m_is_schema
  generalize hsc : schD S = sc
  have i0 : ixD sc (.int 0) = some (.str (Str.ofString "schema")) := by rw [← hsc]; rfl
  have t0 : isTup sc = true := by rw [← hsc]; rfl
  have l0 : lenF [sc] = some (.int 3) := by rw [← hsc]; rfl
  have x0 : ∀ E : Evn, E[0]? = some (some (.d sc)) → mOp ixD (mBor 0) (Rd.ok (.int 0)) E G = some (.ok (.str (Str.ofString "schema")), G) := fun E hE => mOp_ok (a := sc) (b := .int 0) (by unfold mBor; rw [hE]) rfl i0
  refine chk_ok (or_f ?_ (or_f ?_ (or_f ?_ ?_))) ?_
  · exact (nt_ok (d := sc) rfl).trans (by rw [t0]; rfl)
  · exact mT_ok (mOp_ok (a := .int 3) (b := .int 3) (G1 := G) (mCall1_ok (a := sc) (G1 := G) rfl l0) rfl (ne_self (shaped_int 3)))
  · exact nt_ok (x0 _ rfl)
  · exact mT_ok (mOp_ok (a := .str (Str.ofString "schema")) (b := .str (Str.ofString "schema")) (G1 := G) (x0 _ rfl) rfl (by kernel_rfl))
  refine nx_ok [some (.d sc), some (.d (.str (Str.ofString "schema"))), some (.d (.tuple (strL S.ss))), some (.d (.tuple (S.rs.map relD))), none, none, none, none] (by rw [← hsc]; rfl) ?_
  refine chk_ok (or_f ?_ (or_f ?_ (or_f ?_ ?_))) ?_
  · exact mNot_ok (k := true) (mT_ok (mCallZ_ok (aD_ok (d := .tuple (strL S.ss)) (G1 := G) rfl (aD_ok (d := .int 2) (G1 := G) rfl aNil_ok)) n1))
  · exact mT_ok (mOp_ok (a := .tuple (strL S.ss)) (b := .tuple []) (G1 := G) rfl rfl n3)
  · exact mNot_ok (k := true) (mT_ok (mCallZ_ok (aD_ok (d := .tuple (strL S.ss)) (G1 := G) rfl aNil_ok) n2))
  · exact nt_ok (d := .tuple (S.rs.map relD)) rfl
  refine chk_ok (or_f ?_ ?_) ?_
  · refine mNot_ok (k := true) (mT_ok ((chain_ok (i := 1) (j := (S.rs.length : Int)) (k := 4) rfl (mCall1_ok (a := .tuple (S.rs.map relD)) (G1 := G) rfl (by show some (PyData.int _) = _; rw [List.length_map])) rfl).trans ?_))
    rw [decide_eq_true (by omega), decide_eq_true (by omega)] <;> rfl
  · refine mNot_ok (k := true) (mT_ok ((all_ok (e := relD) (l := S.rs) (fun _ => true) (mItT rfl) (by omega) fun r hr => ⟨_, rfl, mCallZ_ok (aD_ok (d := .tuple (strL S.ss)) (G1 := G) rfl (aD_ok (d := relD r) (G1 := G) rfl aNil_ok)) (rel_ok h.s (h.p r hr).1 (h.p r hr).2 G)⟩).trans ?_))
    simp
  refine nx_ok [some (.d sc), some (.d (.str (Str.ofString "schema"))), some (.d (.tuple (strL S.ss))), some (.d (.tuple (S.rs.map relD))), some (.own (.list (strL (S.rs.map (·.1))))), none, none, none] ?_ ?_
  · refine (sSet_ok (vF_ok (mLc_ok (ds := S.rs.map relD) (G1 := G) (mItT rfl) (by rw [List.length_map]; omega) (lcRun_all (e := relD) (fun r => .str r.1) fun r hr => ⟨_, rfl, rfl⟩)))).trans ?_
    simp [strL, List.map_map, Function.comp_def]
  rw [sFrz_own rfl]
  have w0 : mVar 4 [some (.d sc), some (.d (.str (Str.ofString "schema"))), some (.d (.tuple (strL S.ss))), some (.d (.tuple (S.rs.map relD))), some (.d (.list (strL (S.rs.map (·.1))))), none, none, none] G = some (.ok (.list (strL (S.rs.map (·.1)))), G) := rfl
  have w1 := mCallZ_ok (F := f_are_rising) (aD_ok w0 aNil_ok) c1
  show sRet _ [some (.d sc), some (.d (.str (Str.ofString "schema"))), some (.d (.tuple (strL S.ss))), some (.d (.tuple (S.rs.map relD))), some (.d (.list (strL (S.rs.map (·.1))))), none, none, none] G = _
  refine sRet_ok (mAndV_true w1 ?_)
  refine (all_ok (e := fun z => .str z) (l := S.rs.map (·.1)) (fun _ => true) (mItL rfl) (by rw [List.length_map]; omega) fun z hz => ⟨_, rfl, mOp_ok (a := .str z) (b := .tuple (strL S.ss)) (G1 := G) rfl rfl (c5 z hz)⟩).trans ?_
  simp
theorem need_ok {S : Sch} (h : SOk S) (G : Rng) : f_need_schema [.d (schD S)] G = some (.ret .none, G) := by
  have a1 : argE 1 [.d (schD S)] = [some (.d (schD S))] := rfl
  show fnD 1 m_need_schema [.d (schD S)] G = _
  unfold fnD m_need_schema
  rw [a1, sIf_false (G1 := G) (mNot_ok (k := true) (mT_ok (mCallZ_ok (aD_ok (d := schD S) (G1 := G) rfl aNil_ok) (schema_ok h G))))]
  rfl
end Zd

set_option maxRecDepth 100000
set_option maxHeartbeats 4000000
namespace Zd
open PySem PySem.Spec L2
open PyProof.Rows hiding St

/-! ### k59: numbers, what rises -/
def numB : PyData → Bool
  | .int n => decide (0 ≤ n) && decide (n ≤ 999)
  | _ => false
theorem mIsi_ok {q : PyData → Bool} {m : Rd PyData} {E : Evn} {G : Rng} {d : PyData} (h : m E G = some (.ok d, G)) : mIsi q m E G = some (.ok (.bool (q d)), G) := by unfold mIsi; rw [Rd.bind_ok h]; rfl
theorem mNotV_ok {m : Rd PyData} {E : Evn} {G : Rng} {b : Bool} (h : m E G = some (.ok (.bool b), G)) : mNotV m E G = some (.ok (.bool (!b)), G) := by
  unfold mNotV
  rw [Rd.bind_ok (mT_ok h)]
  rfl
theorem isnum_ok (d : PyData) (G : Rng) : f_is_number [.d d] G = some (.ret (.bool (numB d)), G) := by
  refine fnD_ret (sRet_ok ?_)
  have b0 : mBor 0 (argE 1 [.d d]) G = some (.ok d, G) := rfl
  have key : ∀ y : Bool, (isInt d = true → isBool d = false → (mChain leD leD (Rd.ok (.int 0)) (mBor 0) (Rd.ok (.int 999))) (argE 1 [.d d]) G = some (.ok (.bool y), G)) →
      (mAndV (mIsi isInt (mBor 0)) (mAndV (mNotV (mIsi isBool (mBor 0))) (mChain leD leD (Rd.ok (.int 0)) (mBor 0) (Rd.ok (.int 999))))) (argE 1 [.d d]) G = some (.ok (.bool (isInt d && (!isBool d && y))), G) := fun y hy =>
    andV_b (mIsi_ok b0) fun h1 => andV_b (mNotV_ok (mIsi_ok b0)) fun h2 => hy h1 (by simpa using h2)
  cases d with
  | int n =>
    refine (key (decide (0 ≤ n) && decide (n ≤ 999)) fun _ _ => chain_ok rfl rfl rfl).trans ?_
    simp [isInt, isBool, numB]
  | bool b => exact (key false fun _ h => by cases h).trans (by simp [isInt, isBool, numB])
  | _ => exact (key false fun h _ => by cases h).trans (by simp [isInt, isBool, numB])
def tupNum : PyData → Bool
  | .tuple ds => ds.all numB
  | _ => false
theorem ones_nil {β : Type} (l : List β) : eqD (.list (l.map fun _ => .int 1)) (.list []) = some (.bool l.isEmpty) := by
  have e : (l.map fun _ => PyData.int 1) = (l.map fun _ => (1 : Int)).map .int := by rw [List.map_map] <;> rfl
  rw [eq_ok (by rw [e]; exact shaped_ints _) shaped_nil]
  cases l <;> rfl
theorem ones_ne {β : Type} (l : List β) : neD (.list (l.map fun _ => .int 1)) (.list []) = some (.bool (!l.isEmpty)) := by
  have e : (l.map fun _ => PyData.int 1) = (l.map fun _ => (1 : Int)).map .int := by rw [List.map_map] <;> rfl
  rw [ne_ok (by rw [e]; exact shaped_ints _) shaped_nil]
  cases l <;> rfl
theorem filter_all {β : Type} (p : β → Bool) (l : List β) : (l.filter fun b => !p b).isEmpty = l.all p := by
  rw [Bool.eq_iff_iff, List.isEmpty_iff, List.filter_eq_nil_iff, List.all_eq_true]
  simp
theorem lnum_ok {d : PyData} (hz : ∀ ds, d = .tuple ds → ds.length ≤ 100000) (G : Rng) : f_law_are_numbers [.d d] G = some (.ret (.bool (tupNum d)), G) := by
  refine fnD_ret (sRet_ok ?_)
  have b0 : mBor 0 (argE 2 [.d d]) G = some (.ok d, G) := rfl
  cases d with
  | tuple ds =>
    refine (andV_b (x := true) (y := ds.all numB) (mIsi_ok b0) fun _ => ?_).trans rfl
    have hz := hz ds rfl
    have run := lcRun_pure (f := tgN 1) (tt := (mOr (mT (mIsi isBool (mBor 1))) (mOr (mNot (mT (mIsi isInt (mBor 1)))) (mNot (mT (mChain leD leD (Rd.ok (.int 0)) (mBor 1) (Rd.ok (.int 999)))))))) (te := Rd.ok (.int 1)) (E := wipeE (argE 2 [.d (.tuple ds)]) [1]) (G := G) (fun d => !numB d) (fun _ => .int 1) (ds := ds) fun d hd => ?_
    · refine mOp_ok (mLc_ok (mItT b0) hz run) (mLst_ok mNil_ok (by simp)) ?_
      rw [ones_nil, filter_all]
    · have b1 : mBor 1 ([some (.d (.tuple ds)), some (.d d)] : Evn) G = some (.ok d, G) := rfl
      refine ⟨[some (.d (.tuple ds)), some (.d d)], rfl, ?_, fun _ => rfl⟩
      cases d with
      | int n =>
        refine (or_b (x := false) (y := !numB (.int n)) (mT_ok (mIsi_ok b1)) fun _ => ?_).trans (by simp)
        refine (or_b (x := false) (y := !numB (.int n)) (nt_ok b1) fun _ => ?_).trans (by simp)
        exact mNot_ok (mT_ok (chain_ok rfl rfl rfl))
      | bool b => exact (or_b (x := true) (y := true) (mT_ok (mIsi_ok b1)) fun h => by cases h).trans rfl
      | _ =>
        refine (or_b (x := false) (y := true) (mT_ok (mIsi_ok b1)) fun _ => ?_).trans rfl
        exact (or_b (x := true) (y := true) (nt_ok b1) fun h => by cases h).trans rfl
  | _ => exact (andV_b (x := false) (y := false) (mIsi_ok b0) fun h => by cases h).trans rfl

/-! ### what rises -/
def chB {β : Type} (r : β → β → Bool) : List β → Bool
  | [] => true
  | [_] => true
  | a :: b :: t => r a b && chB r (b :: t)
def stp {β : Type} (r : β → β → Bool) (l : List β) (i : Nat) : Bool := match l[i]?, l[i + 1]? with
  | some a, some b => r a b
  | _, _ => true
theorem stp_all {β : Type} (r : β → β → Bool) : ∀ l : List β, (List.range (l.length - 1)).all (stp r l) = chB r l
  | [] => rfl
  | [_] => rfl
  | a :: b :: t => by
    have ih := stp_all r (b :: t)
    have e : (a :: b :: t).length - 1 = (b :: t).length - 1 + 1 := by simp
    rw [e, List.range_succ_eq_map, List.all_cons, List.all_map]
    unfold chB
    rw [← ih]
    rfl
theorem chB_pw {β : Type} {r : β → β → Bool} : ∀ {l : List β}, (∀ a ∈ l, ∀ b ∈ l, ∀ c ∈ l, r a b = true → r b c = true → r a c = true) → (chB r l = true ↔ l.Pairwise fun a b => r a b = true)
  | [], _ => by simp [chB]
  | [_], _ => by simp [chB]
  | a :: b :: t, tr => by
    have ih := chB_pw (r := r) (l := b :: t) fun x hx y hy z hz => tr x (List.mem_cons_of_mem _ hx) y (List.mem_cons_of_mem _ hy) z (List.mem_cons_of_mem _ hz)
    unfold chB
    rw [Bool.and_eq_true, ih, List.pairwise_cons (a := a)]
    constructor
    · rintro ⟨h1, h2⟩
      refine ⟨fun c hc => ?_, h2⟩
      rcases List.mem_cons.mp hc with rfl | hc
      · exact h1
      · exact tr a List.mem_cons_self b (by simp) c (List.mem_cons_of_mem _ (List.mem_cons_of_mem _ hc)) h1 ((List.pairwise_cons.mp h2).1 c hc)
    · rintro ⟨h1, h2⟩
      exact ⟨h1 b List.mem_cons_self, h2⟩
theorem atI_nat {cs : List PyData} {i : Nat} {t : PyData} (h : cs[i]? = some t) : atI cs (i : Int) = some t := by
  have hl := (List.getElem?_eq_some_iff.mp h).1
  unfold atI ixN
  rw [if_pos (by omega), if_pos (by omega)]
  simpa using h
theorem rising_ok {β : Type} {e : β → PyData} {r : β → β → Bool} {l : List β} (h : ∀ a ∈ l, ∀ b ∈ l, ltD (e a) (e b) = some (.bool (r a b))) (hz : l.length ≤ 100000) (G : Rng) : f_are_rising [.d (.tuple (l.map e))] G = some (.ret (.bool (chB r l)), G) := by
  refine fnD_ret (sRet_ok ?_)
  have b0 : ∀ E : Evn, E[0]? = some (some (.d (.tuple (l.map e)))) → mBor 0 E G = some (.ok (.tuple (l.map e)), G) := fun E hE => by unfold mBor; rw [hE]
  have len : (mOp subD (mCallB lenF (mCons (mBor 0) mNil)) (Rd.ok (.int 1))) (argE 2 [.d (.tuple (l.map e))]) G = some (.ok (.int ((l.length : Int) - 1)), G) :=
    mOp_ok (mCall1_ok (a := .tuple (l.map e)) (d := .int (l.length : Int)) (b0 _ rfl) (by show some (PyData.int _) = _; rw [List.length_map])) rfl rfl
  by_cases h0 : l = []
  · subst h0
    have rng : mRange1 (mOp subD (mCallB lenF (mCons (mBor 0) mNil)) (Rd.ok (.int 1))) (argE 2 [.d (.tuple (([] : List β).map e))]) G = some (.ok [], G) := by
      unfold mRange1
      rw [Rd.bind_ok len]
      rfl
    exact (all_ok (e := fun i : Nat => .int (i : Int)) (l := []) (fun _ => true) rng (by simp) fun b hb => by cases hb).trans rfl
  · have hpos : 0 < l.length := List.length_pos_iff.mpr h0
    have rng : mRange1 (mOp subD (mCallB lenF (mCons (mBor 0) mNil)) (Rd.ok (.int 1))) (argE 2 [.d (.tuple (l.map e))]) G = some (.ok ((List.range (l.length - 1)).map fun (i : Nat) => PyData.int (i : Int)), G) :=
      mRange1_ok (by rw [len, show ((l.length : Int) - 1) = ((l.length - 1 : Nat) : Int) by omega]) (by omega)
    refine (all_ok (e := fun i : Nat => .int (i : Int)) (l := List.range (l.length - 1)) (stp r l) rng (by rw [List.length_range]; omega) fun i hi => ?_).trans (by rw [stp_all])
    have hi := List.mem_range.mp hi
    have i1 : i < l.length := by omega
    have i2 : i + 1 < l.length := by omega
    have x0 : mBor 0 ([some (.d (.tuple (l.map e))), some (.d (.int (i : Int)))] : Evn) G = some (.ok (.tuple (l.map e)), G) := rfl
    have x1 : mBor 1 ([some (.d (.tuple (l.map e))), some (.d (.int (i : Int)))] : Evn) G = some (.ok (.int (i : Int)), G) := rfl
    have x2 : (mOp addD (mBor 1) (Rd.ok (.int 1))) ([some (.d (.tuple (l.map e))), some (.d (.int (i : Int)))] : Evn) G = some (.ok (.int (i + 1 : Nat)), G) := mOp_ok x1 rfl rfl
    have y1 : (mOp ixD (mBor 0) (mBor 1)) ([some (.d (.tuple (l.map e))), some (.d (.int (i : Int)))] : Evn) G = some (.ok (e l[i]), G) := mOp_ok x0 x1 (atI_nat (by rw [List.getElem?_map, List.getElem?_eq_getElem i1] <;> rfl))
    have y2 : (mOp ixD (mBor 0) (mOp addD (mBor 1) (Rd.ok (.int 1)))) ([some (.d (.tuple (l.map e))), some (.d (.int (i : Int)))] : Evn) G = some (.ok (e l[i + 1]), G) := mOp_ok x0 x2 (atI_nat (by rw [List.getElem?_map, List.getElem?_eq_getElem i2] <;> rfl))
    refine ⟨_, rfl, mOp_ok y1 y2 ?_⟩
    rw [h _ (List.getElem_mem i1) _ (List.getElem_mem i2)]
    unfold stp
    rw [List.getElem?_eq_getElem i1, List.getElem?_eq_getElem i2]
theorem lex_code_b {B : Int} : ∀ {a b : List Int}, a.length = b.length → TS.Bd B a → TS.Bd B b → HT.lexLt a b = decide (TS.code B a < TS.code B b)
  | [], [], _, _, _ => by simp [HT.lexLt]
  | [], _ :: _, h, _, _ => by cases h
  | _ :: _, [], h, _, _ => by cases h
  | x :: r, y :: q, h, ha, hb => by
    have hl : r.length = q.length := by simpa using h
    rw [HT.lexLt_cons]
    split
    · rename_i e
      subst e
      rw [lex_code_b hl ha.tail hb.tail]
      have e1 : TS.code B (x :: r) = x * B ^ r.length + TS.code B r := rfl
      have e2 : TS.code B (x :: q) = x * B ^ q.length + TS.code B q := rfl
      rw [e1, e2, hl]
      congr 1
      rw [eq_iff_iff]
      constructor <;> intro z <;> omega
    · rename_i ne
      rcases Int.lt_trichotomy x y with g | g | g
      · have := TS.code_lt hl ha.tail hb.tail g
        rw [decide_eq_true g, decide_eq_true this]
      · exact absurd g ne
      · have := TS.code_lt hl.symm hb.tail ha.tail g
        rw [decide_eq_false (by omega), decide_eq_false (by omega)]
/-- whole numbers of a tuple -/
def intOf : PyData → Option Int
  | .int n => some n
  | _ => none
def nums : PyData → List Int
  | .tuple ds => ds.filterMap intOf
  | _ => []
theorem nums_of {ds : List PyData} (h : ds.all numB = true) : ds = (ds.filterMap intOf).map .int ∧ ∀ n ∈ ds.filterMap intOf, 0 ≤ n ∧ n ≤ 999 := by
  induction ds with
  | nil => exact ⟨rfl, fun n hn => by cases hn⟩
  | cons d r ih =>
    rw [List.all_cons, Bool.and_eq_true] at h
    obtain ⟨h1, h2⟩ := ih h.2
    cases d with
    | int n =>
      have hn : 0 ≤ n ∧ n ≤ 999 := by
        have := h.1
        unfold numB at this
        simpa using this
      refine ⟨?_, fun m hm => ?_⟩
      · rw [List.filterMap_cons_some (show intOf (.int n) = some n from rfl), List.map_cons, ← h1]
      · rw [List.filterMap_cons_some (show intOf (.int n) = some n from rfl)] at hm
        rcases List.mem_cons.mp hm with rfl | hm
        · exact hn
        · exact h2 m hm
    | _ => cases h.1
theorem tupNum_of {d : PyData} (h : tupNum d = true) : d = .tuple ((nums d).map .int) ∧ ∀ n ∈ nums d, 0 ≤ n ∧ n ≤ 999 := by
  cases d with
  | tuple ds =>
    obtain ⟨h1, h2⟩ := nums_of h
    exact ⟨by show PyData.tuple ds = .tuple _; exact congrArg _ h1, h2⟩
  | _ => cases h
def riseI (l : List Int) : Bool := chB (fun a b => decide (a < b)) l
theorem riseI_iff (l : List Int) : riseI l = true ↔ l.Pairwise (· < ·) := by
  unfold riseI
  rw [chB_pw (fun a _ b _ c _ h1 h2 => by simp at *; omega)]
  simp
def thingB (d : PyData) : Bool := tupNum d && riseI (nums d)
theorem things_ok {d : PyData} (hz : ∀ ds, d = .tuple ds → ds.length ≤ 100000) (G : Rng) : f_are_things [.d d] G = some (.ret (.bool (thingB d)), G) := by
  refine fnD_ret (sRet_ok ?_)
  have b0 : mBor 0 (argE 2 [.d d]) G = some (.ok d, G) := rfl
  cases d with
  | tuple ds =>
    have hz := hz ds rfl
    refine (andV_b (x := true) (y := thingB (.tuple ds)) (mIsi_ok b0) fun _ => ?_).trans rfl
    refine andV_b (x := ds.all numB) (y := riseI (nums (.tuple ds))) ?_ fun h => ?_
    · have it : mIt (mBor 0) (argE 2 [.d (.tuple ds)]) G = some (.ok (ds.map id), G) := by rw [List.map_id]; exact mItT b0
      exact all_ok (e := id) (l := ds) numB it hz fun d hd => ⟨[some (.d (.tuple ds)), some (.d d)], rfl, mCallZ_ok (aD_ok (d := d) (G1 := G) rfl aNil_ok) (isnum_ok d G)⟩
    · obtain ⟨h1, h2⟩ := tupNum_of (d := .tuple ds) h
      refine mCallZ_ok (aD_ok (d := .tuple ds) (G1 := G) rfl aNil_ok) ?_
      have hl : (nums (.tuple ds)).length ≤ 100000 := Nat.le_trans (List.length_filterMap_le _ _) hz
      have := rising_ok (e := .int) (r := fun a b => decide (a < b)) (l := nums (.tuple ds)) (fun a _ b _ => rfl) hl G
      rw [← h1] at this
      exact this
  | _ => exact (andV_b (x := false) (y := false) (mIsi_ok b0) fun h => by cases h).trans rfl
end Zd

set_option maxRecDepth 100000
set_option maxHeartbeats 4000000
namespace Zd
open PySem PySem.Spec L2
open PyProof.Rows hiding St

/-! ### k59: sorted(dict([(x, 1) for x in xs])) -/
def ddS {α : Type} [DecidableEq α] (acc : List α) (a : α) : List α := if a ∈ acc then acc else acc ++ [a]
def dd {α : Type} [DecidableEq α] (l : List α) : List α := l.foldl ddS []
theorem dd_go {α : Type} [DecidableEq α] : ∀ (l acc : List α), acc.Nodup → (l.foldl ddS acc).Nodup ∧ ∀ x, x ∈ l.foldl ddS acc ↔ x ∈ acc ∨ x ∈ l
  | [], acc, h => ⟨h, fun x => by simp⟩
  | a :: l, acc, h => by
    have h2 : (ddS acc a).Nodup ∧ ∀ x, x ∈ ddS acc a ↔ x ∈ acc ∨ x = a := by
      unfold ddS
      split
      · rename_i hm
        exact ⟨h, fun x => ⟨.inl, fun z => z.elim id fun e => e ▸ hm⟩⟩
      · rename_i hm
        refine ⟨?_, fun x => by simp⟩
        rw [List.nodup_append]
        exact ⟨h, by simp, fun x hx y hy e => hm (by rw [List.mem_singleton.mp hy] at e; exact e ▸ hx)⟩
    obtain ⟨g1, g2⟩ := dd_go l (ddS acc a) h2.1
    refine ⟨g1, fun x => ?_⟩
    rw [List.foldl_cons, g2, h2.2, List.mem_cons]
    constructor
    · rintro ((h | h) | h)
      · exact .inl h
      · exact .inr (.inl h)
      · exact .inr (.inr h)
    · rintro (h | h | h)
      · exact .inl (.inl h)
      · exact .inl (.inr h)
      · exact .inr h
theorem dd_nd {α : Type} [DecidableEq α] (l : List α) : (dd l).Nodup := (dd_go l [] .nil).1
theorem dd_mem {α : Type} [DecidableEq α] (l : List α) (x : α) : x ∈ dd l ↔ x ∈ l := by
  have := (dd_go l [] .nil).2 x
  unfold dd
  rw [this]
  simp
theorem dd_len {α : Type} [DecidableEq α] : ∀ (l acc : List α), (l.foldl ddS acc).length ≤ acc.length + l.length
  | [], acc => by simp
  | a :: l, acc => by
    have h1 := dd_len l (ddS acc a)
    have h2 : (ddS acc a).length ≤ acc.length + 1 := by unfold ddS; split <;> simp
    rw [List.foldl_cons, List.length_cons]
    omega
theorem kvL_same {β : Type} (kf : β → GK) (v : PyData) {l : List β} {b : β} (h : kf b ∈ l.map kf) : putD (kvL kf (fun _ => v) l) (kf b) v = kvL kf (fun _ => v) l := by
  unfold putD
  rw [if_pos]
  · unfold kvL
    rw [List.map_map]
    refine List.map_congr_left fun c _ => ?_
    simp only [Function.comp_apply]
    split <;> rfl
  · unfold kvL
    obtain ⟨c, hc, e⟩ := List.mem_map.mp h
    simp only [List.any_map, List.any_eq_true]
    exact ⟨c, hc, by simp [Function.comp_apply, keyOf_keyG, e]⟩
theorem dd_fold {α : Type} [DecidableEq α] (L : Lot α) (v : PyData) : ∀ (l acc : List α), l.foldl (fun acc a => putD acc (L.key a) v) (kvL L.key (fun _ => v) acc) = kvL L.key (fun _ => v) (l.foldl ddS acc)
  | [], acc => rfl
  | a :: l, acc => by
    rw [List.foldl_cons, List.foldl_cons, ← dd_fold L v l (ddS acc a)]
    congr 1
    unfold ddS
    split
    · rename_i h
      exact kvL_same L.key v ((L.mem_key).mpr h)
    · rename_i h
      exact kvL_put L.key (fun _ => v) fun z => h ((L.mem_key).mp z)
theorem keysI_dc (v : PyData) : ∀ l : List Int, keysI (kvL lotI.key (fun _ => v) l) = some l
  | [] => rfl
  | n :: l => by
    show (keysI (kvL lotI.key (fun _ => v) l)).map (n :: ·) = _
    rw [keysI_dc v l]
    rfl
theorem pairsI (v : PyData) : ∀ l : List Int, pairsOf (l.map fun n => .tuple [.int n, v]) = some (l.map fun n => (.inl n, v))
  | [] => rfl
  | n :: l => by
    rw [List.map_cons, List.map_cons]
    unfold pairsOf
    rw [pairsI v l]
    rfl
theorem srtI_eq {l : List Int} : ((dd l).mergeSort fun a b => decide (a ≤ b)) = lotI.srt l := by
  refine rise_uniq (sort_rise (dd_nd l)) (lotI.srt_rise l fun _ _ => trivial) fun x => ?_
  rw [List.mem_mergeSort, dd_mem, lotI.srt_mem]
theorem sd_I (l : List Int) (h : l.length < 64) : ∃ d, dictXF [.list (l.map fun n => .tuple [.int n, .int 1])] = some d ∧ sortY [d] = some (.list (lotI.ens (lotI.srt l))) := by
  refine ⟨.dict (kvL lotI.key (fun _ => .int 1) (dd l)), ?_, ?_⟩
  · unfold dictXF
    simp only
    rw [pairsI]
    simp only
    have := dd_fold lotI (.int 1) l []
    unfold mergeD
    rw [List.foldl_map]
    exact congrArg some (congrArg PyData.dict this)
  · have hl := dd_len l []
    rw [List.length_nil, Nat.zero_add] at hl
    have e : sortDF [.dict (kvL lotI.key (fun _ => .int 1) (dd l))] = some (.list (lotI.ens (lotI.srt l))) := by
      unfold sortDF
      simp only
      rw [keysI_dc]
      simp only [Option.bind]
      rw [if_pos (show (dd l).length < 64 from Nat.lt_of_le_of_lt hl h), srtI_eq]
      rfl
    unfold sortY
    simp only
    rw [e]
theorem eqvAll_ens {α : Type} [DecidableEq α] (L : Lot α) : ∀ a b : List α, PyData.eqvAll (L.ens a) (L.ens b) = decide (a = b)
  | [], [] => rfl
  | [], _ :: _ => rfl
  | _ :: _, [] => rfl
  | x :: a, y :: b => by
    show (PyData.eqv (L.en x) (L.en y) && PyData.eqvAll (L.ens a) (L.ens b)) = _
    rw [eqvAll_ens L a b, show PyData.eqv (L.en x) (L.en y) = decide (x = y) from L.eqv x y, Bool.eq_iff_iff]
    simp
theorem ne_ens {α : Type} [DecidableEq α] (L : Lot α) (a b : List α) : neD (.list (L.ens a)) (.list (L.ens b)) = some (.bool (!decide (a = b))) := by
  rw [ne_ok (a := .list (L.ens a)) (b := .list (L.ens b)) (L.shpL a) (L.shpL b)]
  show some (PyData.bool (!PyData.eqvAll (L.ens a) (L.ens b))) = _
  rw [eqvAll_ens]
theorem is_srt {α : Type} [DecidableEq α] (L : Lot α) {l : List α} (he : ∀ a ∈ l, L.el a) : l = L.srt l ↔ L.rise l :=
  ⟨fun e => by rw [e]; exact L.srt_rise l he, fun h => (L.srt_of h he).symm⟩
/-- rows -/
theorem lt_lex : ∀ a b : List Int, decide (a < b) = HT.lexLt a b
  | [], [] => by simp [HT.lexLt]
  | [], _ :: _ => by simp [HT.lexLt]
  | _ :: _, [] => by simp [HT.lexLt]
  | x :: a, y :: b => by
    rw [HT.lexLt_cons, ← lt_lex a b, Bool.eq_iff_iff, decide_eq_true_eq, List.cons_lt_cons_iff]
    split
    · rename_i e
      rw [decide_eq_true_eq]
      exact ⟨fun h => h.elim (fun z => by omega) fun z => z.2, fun h => .inr ⟨e, h⟩⟩
    · rename_i ne
      rw [decide_eq_true_eq]
      exact ⟨fun h => h.elim id fun z => absurd z.1 ne, .inl⟩
theorem dataLe_rows {d : Nat} {a b : List Int} (ha : a.length = d ∧ TS.Bd 1000 a) (hb : b.length = d ∧ TS.Bd 1000 b) : codeLe a b = PySem.W.dataLe false id (tupI a) (tupI b) := by
  have : PySem.W.dataLe false id (tupI a) (tupI b) = !decide (b < a) := by
    show (!PySem.W.dataLt (.tuple (b.map .int)) (.tuple (a.map .int))) = _
    rw [PySem.W.dataLt_tuple]
    show (!PySem.W.rowLt (b.map .int) (a.map .int)) = _
    rw [PySem.W.dataLt_ints]
  rw [this, lt_lex, lex_code_b (hb.1.trans ha.1.symm) hb.2 ha.2]
  unfold codeLe
  rw [Bool.eq_iff_iff]
  simp
theorem alike_rows (l : List (List Int)) : alikeB (l.map tupI) = true := by
  unfold alikeB
  rw [List.all_eq_true]
  intro x hx
  rw [List.all_eq_true]
  intro y hy
  obtain ⟨a, ha, rfl⟩ := List.mem_map.mp hx
  obtain ⟨b, hb, rfl⟩ := List.mem_map.mp hy
  have go : ∀ a b : List Int, PySem.W.alikeAll (a.map .int) (b.map .int) = true := fun a => by
    induction a with
    | nil => intro b; cases b <;> simp [PySem.W.alikeAll]
    | cons x a ih =>
      intro b
      cases b with
      | nil => simp [PySem.W.alikeAll]
      | cons y b => simp [PySem.W.alikeAll, PySem.W.alike, ih b]
  simp only [tupI, PySem.W.alike]
  exact go a b
theorem sortable_rows {l : List (List Int)} (h : ∀ x ∈ l, x ≠ []) : sortableB (l.map tupI) = true := by
  unfold sortableB
  rw [Bool.or_eq_true]
  left
  rw [List.all_eq_true]
  intro x hx
  obtain ⟨a, ha, rfl⟩ := List.mem_map.mp hx
  have := h a ha
  cases a with
  | nil => exact absurd rfl this
  | cons _ _ => rfl
theorem shaped_rows (l : List (List Int)) : (l.map tupI).all SeqAt.shaped = true := by
  rw [List.all_eq_true]
  intro x hx
  obtain ⟨a, ha, rfl⟩ := List.mem_map.mp hx
  exact shaped_intsT a
theorem keysK_ints : ∀ k : List Int, keysK (k.map .int) = some (k.map Sum.inl)
  | [] => rfl
  | n :: k => by
    rw [List.map_cons, List.map_cons]
    unfold keysK
    rw [keysK_ints k]
    rfl
theorem pairsR (v : PyData) : ∀ {l : List (List Int)}, (∀ k ∈ l, k.length ≤ 100000) → pairsTOf (l.map fun k => .tuple [tupI k, v]) = some (l.map fun k => (k.map Sum.inl, v))
  | [], _ => rfl
  | k :: l, h => by
    rw [List.map_cons, List.map_cons]
    unfold pairsTOf
    rw [pairsR v fun q hq => h q (List.mem_cons_of_mem _ hq)]
    have : pairTOf (.tuple [tupI k, v]) = some (k.map Sum.inl, v) := by
      show (if (k.map PyData.int).length ≤ 100000 then (keysK (k.map .int)).map fun q => (q, v) else none) = _
      rw [if_pos (by rw [List.length_map]; exact h k List.mem_cons_self), keysK_ints]
      rfl
    rw [this]
    rfl
theorem ens_tupI {d : Nat} (hd : 1 ≤ d) (l : List (List Int)) : (lotR d hd).ens l = l.map tupI := List.map_congr_left fun a _ => tupI_key a
theorem kvR_keys {d : Nat} (hd : 1 ≤ d) (v : PyData) (l : List (List Int)) : (kvL (lotR d hd).key (fun _ => v) l).map (·.1) = l.map tupI := by
  rw [kvL_keys]
  exact List.map_congr_left fun a _ => tupI_key a
theorem srtR_eq {d : Nat} (hd : 1 ≤ d) {l : List (List Int)} (he : ∀ x ∈ l, (lotR d hd).el x) : (dd l).mergeSort codeLe = (lotR d hd).srt l := by
  have he' : ∀ x ∈ dd l, (lotR d hd).el x := fun x hx => he x ((dd_mem l x).mp hx)
  refine (lotR d hd).uniq _ _ ?_ ((lotR d hd).srt_rise l he) fun x => ?_
  · have h1 : ((dd l).mergeSort codeLe).Pairwise fun a b => TS.code 1000 a ≤ TS.code 1000 b := by
      have := List.pairwise_mergeSort (le := codeLe) (fun a b c h1 h2 => by unfold codeLe at *; simp at *; omega) (fun a b => by unfold codeLe; simp; omega) (dd l)
      exact this.imp fun h => by unfold codeLe at h; simpa using h
    have h2 : ((dd l).mergeSort codeLe).Nodup := (List.mergeSort_perm _ _).nodup_iff.mpr (dd_nd l)
    refine (h1.and h2).imp_of_mem fun {a b} ha hb ⟨q1, q2⟩ => ?_
    have ea := he' a (List.mem_mergeSort.mp ha)
    have eb := he' b (List.mem_mergeSort.mp hb)
    have : TS.code 1000 a ≠ TS.code 1000 b := fun e => q2 (code_inj (ea.1.trans eb.1.symm) ea.2 eb.2 e)
    omega
  · rw [List.mem_mergeSort, dd_mem, (lotR d hd).srt_mem]
theorem sd_R {d : Nat} (hd : 1 ≤ d) (hd2 : d ≤ 1000) {l : List (List Int)} (he : ∀ x ∈ l, (lotR d hd).el x) (hz : l.length ≤ 100000) : ∃ c, dictXF [.list (l.map fun k => .tuple [tupI k, .int 1])] = some c ∧ sortY [c] = some (.list ((lotR d hd).ens ((lotR d hd).srt l))) := by
  refine ⟨.dict (kvL (lotR d hd).key (fun _ => .int 1) (dd l)), ?_, ?_⟩
  · have fin := dd_fold (lotR d hd) (.int 1) l []
    cases l with
    | nil => rfl
    | cons k r =>
      unfold dictXF
      simp only
      have e1 : pairsOf ((k :: r).map fun k => .tuple [tupI k, .int 1]) = none := rfl
      rw [e1]
      simp only
      rw [pairsR (.int 1) fun q hq => by have := (he q hq).1; omega]
      unfold mergeDT
      rw [Option.map_some, List.foldl_map]
      exact congrArg some (congrArg PyData.dict fin)
  · have he' : ∀ x ∈ dd l, (lotR d hd).el x := fun x hx => he x ((dd_mem l x).mp hx)
    have hl := dd_len l []
    rw [List.length_nil, Nat.zero_add] at hl
    have hl : (dd l).length ≤ l.length := hl
    rw [← srtR_eq hd he]
    generalize dd l = q at *
    unfold sortY
    simp only
    cases q with
    | nil =>
      have e1 : sortDF [.dict (kvL (lotR d hd).key (fun _ => .int 1) [])] = some (.list []) := by
        show sortDF [.dict []] = _
        unfold sortDF
        simp [keysI]
      rw [e1, show (([] : List (List Int)).mergeSort codeLe) = [] by simp]
      rfl
    | cons k r =>
      have e1 : sortDF [.dict (kvL (lotR d hd).key (fun _ => .int 1) (k :: r))] = none := rfl
      rw [e1]
      simp only
      unfold sortTF
      simp only
      rw [kvR_keys, if_pos, ens_tupI]
      · congr 2
        exact (List.map_mergeSort (f := tupI) (r := codeLe) (s := PySem.W.dataLe false id) (l := k :: r) fun a ha b hb => dataLe_rows (d := d) (show a.length = d ∧ TS.Bd 1000 a from he' a ha) (show b.length = d ∧ TS.Bd 1000 b from he' b hb)).symm
      · simp only [Bool.and_eq_true]
        refine ⟨⟨⟨⟨⟨rfl, ?_⟩, ?_⟩, alike_rows _⟩, sortable_rows fun x hx z => ?_⟩, shaped_rows _⟩
        · rw [List.all_map, List.all_eq_true]
          intro x hx
          rfl
        · rw [kvL_length]
          exact decide_eq_true (Nat.le_trans hl hz)
        · have := (he' x hx).1
          rw [z] at this
          simp at this
          omega
end Zd

set_option maxRecDepth 100000
set_option maxHeartbeats 4000000
namespace Zd
open PySem PySem.Spec L2
open PyProof.Rows hiding St

/-! ### k59: what is a store -/
def kS (s : Str) : GK := .inl (.inr s)
theorem nd_kS {ss : List Str} (h : ss.Nodup) : (ss.map kS).Nodup := by
  unfold List.Nodup at *
  rw [List.pairwise_map]
  exact h.imp fun q e => q (by cases e; rfl)
abbrev Kd := Str → List Int
def kOf (ss : List Str) (ts : List PyData) : Kd := fun s => match (ss.zip ts).find? (fun p => p.1 == s) with
  | some p => nums p.2
  | none => []
theorem kOf_eq : ∀ {ss : List Str} {ts : List PyData}, ss.Nodup → ts.length = ss.length → (∀ t ∈ ts, tupNum t = true) → ts = ss.map (fun s => .tuple (lotI.ens (kOf ss ts s))) ∧ ∀ s ∈ ss, ∃ t ∈ ts, kOf ss ts s = nums t
  | [], [], _, _, _ => ⟨rfl, fun s hs => by cases hs⟩
  | [], _ :: _, _, h, _ => by cases h
  | _ :: _, [], _, h, _ => by cases h
  | s :: ss, t :: ts, nd, h, ht => by
    rw [List.nodup_cons] at nd
    obtain ⟨e1, e2⟩ := kOf_eq (ss := ss) (ts := ts) nd.2 (by simpa using h) fun t ht' => ht t (List.mem_cons_of_mem _ ht')
    have k0 : kOf (s :: ss) (t :: ts) s = nums t := by
      unfold kOf
      rw [List.zip_cons_cons, List.find?_cons_of_pos (by simp)]
    have k1 : ∀ s' ∈ ss, kOf (s :: ss) (t :: ts) s' = kOf ss ts s' := fun s' hs => by
      have ne : s ≠ s' := fun z => nd.1 (z ▸ hs)
      unfold kOf
      rw [List.zip_cons_cons, List.find?_cons_of_neg (by simpa using ne)]
    refine ⟨?_, fun s' hs => ?_⟩
    · rw [List.map_cons, k0, List.map_congr_left fun s' hs => show PyData.tuple (lotI.ens (kOf (s :: ss) (t :: ts) s')) = .tuple (lotI.ens (kOf ss ts s')) by rw [k1 s' hs], ← e1]
      congr 1
      exact (tupNum_of (ht t List.mem_cons_self)).1
    · rcases List.mem_cons.mp hs with rfl | hs
      · exact ⟨t, List.mem_cons_self, k0⟩
      · obtain ⟨t', h1, h2⟩ := e2 s' hs
        exact ⟨t', List.mem_cons_of_mem _ h1, (k1 s' hs).trans h2⟩
def rowB (T : Kd) (r : Rl) (d : PyData) : Bool := tupNum d && (decide ((nums d).length = r.2.length) && (r.2.zip (nums d)).all fun p => decide (p.2 ∈ T p.1))
def ownB (T : Kd) (r : Rl) : PyData → Bool
  | .tuple es => es.all (rowB T r) && chB HT.lexLt (es.map nums)
  | _ => false
def stB (S : Sch) : PyData → Bool
  | .tuple [.str z, .tuple ts, .tuple rs] => (z == Str.ofString "store") && (decide (ts.length = S.ss.length) && (ts.all thingB && (decide (rs.length = S.rs.length) && (rs.all isTup && (S.rs.zip rs).all fun p => ownB (kOf S.ss ts) p.1 p.2))))
  | _ => false
theorem ne_int (a b : Int) : neD (.int a) (.int b) = some (.bool (!decide (a = b))) := by
  rw [ne_ok (shaped_int a) (shaped_int b)]
  simp only [PyData.eqv]
  rw [show (a == b) = decide (a = b) by rw [Bool.eq_iff_iff]; simp]
theorem ne_str (x y : Str) : neD (.str x) (.str y) = some (.bool (!(x == y))) := by
  unfold neD
  split
  · simp [PyData.eqv]
  · rfl
theorem zipD_zip (a : List Str) : ∀ b : List Int, zipD (strL a) (b.map .int) = (a.zip b).map fun p => .tuple [.str p.1, .int p.2] := by
  unfold zipD strL
  induction a with
  | nil => intro b; simp
  | cons x a ih =>
    intro b
    cases b with
    | nil => rfl
    | cons y b =>
      rw [List.map_cons, List.map_cons, List.zipWith_cons_cons, ih b]
      rfl
theorem zipD_gen {β : Type} (g : β → PyData) (a : List β) : ∀ b : List PyData, zipD (a.map g) b = (a.zip b).map fun p => .tuple [g p.1, p.2] := by
  unfold zipD
  induction a with
  | nil => intro b; simp
  | cons x a ih =>
    intro b
    cases b with
    | nil => rfl
    | cons y b =>
      rw [List.map_cons, List.zipWith_cons_cons, ih b]
      rfl
theorem mLen {m : Rd PyData} {E : Evn} {G : Rng} {ds : List PyData} (h : m E G = some (.ok (.tuple ds), G)) : mCallB lenF (mCons m mNil) E G = some (.ok (.int (ds.length : Int)), G) := mCall1_ok h rfl
theorem mNeLen {m1 m2 : Rd PyData} {E : Evn} {G : Rng} {a b : List PyData} (h1 : m1 E G = some (.ok (.tuple a), G)) (h2 : m2 E G = some (.ok (.tuple b), G)) : (mT (mOp neD (mCallB lenF (mCons m1 mNil)) (mCallB lenF (mCons m2 mNil)))) E G = some (.ok (!decide (a.length = b.length)), G) := by
  refine mT_ok (mOp_ok (mLen h1) (mLen h2) ((ne_int _ _).trans ?_))
  simp
  omega
/-- bounds -/
def Lim : Nat → PyData → Prop
  | 0, _ => True
  | k + 1, d => ∀ ds, d = .tuple ds → ds.length ≤ 60 ∧ ∀ e ∈ ds, Lim k e
theorem Lim.len {k : Nat} {ds : List PyData} (h : Lim (k + 1) (.tuple ds)) : ds.length ≤ 60 ∧ ∀ e ∈ ds, Lim k e := h ds rfl
/-- checks, one after the other -/
theorem step_ok {c : Rd Bool} {a : Sd} {E : Evn} {G : Rng} {k b : Bool} (h : c E G = some (.ok k, G)) (h1 : k = true → b = false) (h2 : k = false → a E G = some (.ret (.bool b), G)) : sSeq (sIf c (sRet (Rd.ok (.bool false))) sNx) a E G = some (.ret (.bool b), G) := by
  cases k with
  | true => rw [sSeq_ret ((sIf_true h).trans rfl), h1 rfl]
  | false => exact chk_ok h (h2 rfl)
theorem body_ok {c : Rd Bool} {E : Evn} {G : Rng} {k : Bool} (h : c E G = some (.ok (!k), G)) : (k = true → ∃ E2, sIf c (sRet (Rd.ok (.bool false))) sNx E G = some (.nx E2, G) ∧ E2 = E) ∧ (k = false → sIf c (sRet (Rd.ok (.bool false))) sNx E G = some (.ret (.bool false), G)) := by
  constructor
  · rintro rfl
    exact ⟨E, (sIf_false h).trans rfl, rfl⟩
  · rintro rfl
    exact (sIf_true h).trans rfl
section
variable {β : Type} {e : β → PyData} {f : Tg} {mb : Sd} {p : β → Bool} {I : Evn → Prop} {G : Rng}
theorem forRun_chk : ∀ {l : List β}, (∀ b ∈ l, ∀ E, I E → ∃ E1, f (e b) E = some E1 ∧ (p b = true → ∃ E2, mb E1 G = some (.nx E2, G) ∧ I E2) ∧ (p b = false → mb E1 G = some (.ret (.bool false), G))) → ∀ E, I E →
    (l.all p = true → ∃ E', forRun f mb (l.map e) E G = some (.nx E', G) ∧ I E') ∧ (l.all p = false → forRun f mb (l.map e) E G = some (.ret (.bool false), G))
  | [], _, E, hE => ⟨fun _ => ⟨E, rfl, hE⟩, fun h => by cases h⟩
  | b :: l, hf, E, hE => by
    obtain ⟨E1, h1, h2, h3⟩ := hf b List.mem_cons_self E hE
    rw [List.map_cons, List.all_cons]
    cases hb : p b with
    | true =>
      obtain ⟨E2, h4, h5⟩ := h2 hb
      have ih := forRun_chk (l := l) (fun c hc => hf c (List.mem_cons_of_mem _ hc)) E2 h5
      have e1 : forRun f mb (e b :: l.map e) E G = forRun f mb (l.map e) E2 G := by
        conv => lhs; unfold forRun
        simp only [h1, h4, Option.bind]
      rw [e1, Bool.true_and]
      exact ih
    | false =>
      refine ⟨fun h => by simp at h, fun _ => ?_⟩
      conv => lhs; unfold forRun
      simp only [h1, h3 hb, Option.bind]
theorem for_ok {l : List β} {mi : Rd (List PyData)} {a : Sd} {E : Evn} {b : Bool} (it : mi E G = some (.ok (l.map e), G)) (hE : I E)
    (hf : ∀ b ∈ l, ∀ E, I E → ∃ E1, f (e b) E = some E1 ∧ (p b = true → ∃ E2, mb E1 G = some (.nx E2, G) ∧ I E2) ∧ (p b = false → mb E1 G = some (.ret (.bool false), G)))
    (h1 : l.all p = false → b = false) (h2 : l.all p = true → ∀ E', I E' → a E' G = some (.ret (.bool b), G)) : sSeq (sFor mi f mb) a E G = some (.ret (.bool b), G) := by
  obtain ⟨q1, q2⟩ := forRun_chk hf E hE
  cases hl : l.all p with
  | true =>
    obtain ⟨E', w1, w2⟩ := q1 hl
    rw [sSeq_nx ((sFor_ok it).trans w1)]
    exact h2 hl E' w2
  | false => rw [sSeq_ret ((sFor_ok it).trans (q2 hl)), h1 hl]
end
/-- the program: a row -/
theorem kinds_ix {ss : List Str} (nd : ss.Nodup) (g : Str → PyData) {s : Str} (hs : s ∈ ss) : ixD (.dict (kvL kS g ss)) (.str s) = some (g s) := ix_kvL (kf := kS) (vf := g) rfl (nd_kS nd) (fun _ _ => rfl) hs
theorem rowp_ok {ss : List Str} (nd : ss.Nodup) {T : Kd} {r : Rl} (hr : ∀ s ∈ r.2, s ∈ ss) (hl : r.2.length ≤ 10) {d : PyData} (hz : ∀ ds, d = .tuple ds → ds.length ≤ 100000) (G : Rng) :
    f_is_row_of [.d (.dict (kvL kS (fun s => lotI.dc (.bool true) (T s)) ss)), .d (.tuple (strL r.2)), .d d] G = some (.ret (.bool (rowB T r d)), G) := by
  refine fnD_ret ?_
  generalize hk : PyData.dict (kvL kS (fun s => lotI.dc (.bool true) (T s)) ss) = kd
  have a1 : argE 5 [.d kd, .d (.tuple (strL r.2)), .d d] = [some (.d kd), some (.d (.tuple (strL r.2))), some (.d d), none, none] := rfl
  rw [a1]
  unfold m_is_row_of
  have b1 : mBor 1 [some (.d kd), some (.d (.tuple (strL r.2))), some (.d d), none, none] G = some (.ok (.tuple (strL r.2)), G) := rfl
  have b2 : mBor 2 [some (.d kd), some (.d (.tuple (strL r.2))), some (.d d), none, none] G = some (.ok d, G) := rfl
  have ll : (strL r.2).length = r.2.length := by simp [strL]
  cases d with
  | tuple ds =>
    have hz := hz ds rfl
    refine step_ok (or_b (x := false) (y := !decide (ds.length = r.2.length) || !ds.all numB) (nt_ok b2) fun _ => or_b (x := !decide (ds.length = r.2.length)) (y := !ds.all numB) ?_ fun _ => ?_) (fun h => ?_) fun h => ?_
    · rw [← ll]
      exact mNeLen b2 b1
    · have it : mIt (mBor 2) [some (.d kd), some (.d (.tuple (strL r.2))), some (.d (.tuple ds)), none, none] G = some (.ok (ds.map id), G) := by rw [List.map_id]; exact mItT b2
      exact mNot_ok (mT_ok (all_ok (e := id) (l := ds) numB it hz fun d hd => ⟨[some (.d kd), some (.d (.tuple (strL r.2))), some (.d (.tuple ds)), some (.d d), none], rfl, mCallZ_ok (aD_ok (d := d) (G1 := G) rfl aNil_ok) (isnum_ok d G)⟩))
    · unfold rowB
      cases ht : tupNum (.tuple ds) with
      | false => rfl
      | true =>
        obtain ⟨q1, q2⟩ := tupNum_of ht
        have e1 : (nums (.tuple ds)).length = ds.length := by
          have := congrArg (fun d => match d with | PyData.tuple ds => ds.length | _ => 0) q1
          simpa using this.symm
        rw [e1]
        have ha : ds.all numB = true := ht
        rw [ha] at h
        simp only [Bool.false_or, Bool.not_true, Bool.or_false] at h
        have : decide (ds.length = r.2.length) = false := by simpa using h
        rw [this]
        rfl
    · have h : decide (ds.length = r.2.length) = true ∧ ds.all numB = true := by
        constructor
        · cases hq : decide (ds.length = r.2.length) <;> simp [hq] at h ⊢
        · cases hq : ds.all numB <;> simp [hq] at h ⊢
      obtain ⟨q1, q2⟩ := tupNum_of (d := .tuple ds) h.2
      have e0 : ds = (nums (.tuple ds)).map .int := by injection q1
      have e1 : (nums (.tuple ds)).length = r.2.length := by
        have := congrArg List.length e0
        rw [List.length_map] at this
        have h1 := of_decide_eq_true h.1
        omega
      have goal : rowB T r (.tuple ds) = (r.2.zip (nums (.tuple ds))).all fun p => decide (p.2 ∈ T p.1) := by
        unfold rowB
        rw [show tupNum (.tuple ds) = true from h.2, decide_eq_true e1]
        rfl
      rw [goal]
      generalize nums (.tuple ds) = ns at *
      subst e0
      have it : mZip (mBor 1) (mBor 2) [some (.d kd), some (.d (.tuple (strL r.2))), some (.d (.tuple (ns.map .int))), none, none] G = some (.ok ((r.2.zip ns).map fun p => .tuple [.str p.1, .int p.2]), G) := by
        rw [mZip_ok b1 b2, zipD_zip]
      refine sRet_ok (all_ok (e := fun p : Str × Int => .tuple [.str p.1, .int p.2]) (l := r.2.zip ns) _ it (by rw [List.length_zip]; omega) fun p hp => ⟨[some (.d kd), some (.d (.tuple (strL r.2))), some (.d (.tuple (ns.map .int))), some (.d (.int p.2)), some (.d (.str p.1))], rfl, ?_⟩)
      have hs : p.1 ∈ ss := hr p.1 (List.of_mem_zip hp).1
      have c1 : (mOp ixD (mBor 0) (mBor 4)) [some (.d kd), some (.d (.tuple (strL r.2))), some (.d (.tuple (ns.map .int))), some (.d (.int p.2)), some (.d (.str p.1))] G = some (.ok (lotI.dc (.bool true) (T p.1)), G) := by
        refine mOp_ok (a := kd) (b := .str p.1) (G1 := G) rfl rfl ?_
        rw [← hk]
        exact kinds_ix nd _ hs
      exact mOp_ok (a := .int p.2) (G1 := G) rfl c1 (inD_ok (lotI.in_dc (.bool true) p.2 (T p.1)))
  | _ => exact step_ok (k := true) (or_b (x := true) (y := false) (nt_ok b2) fun h => by cases h) (fun _ => rfl) fun h => by cases h
end Zd

set_option maxRecDepth 100000
set_option maxHeartbeats 4000000
namespace Zd
open PySem PySem.Spec L2
open PyProof.Rows hiding St

theorem dc_ok {α : Type} [DecidableEq α] (L : Lot α) {v : PyData} {b : Bool} {l : List α} {E : Evn} {G : Rng} {i j : Nat} (hi : i ≠ j) (hv : v = .bool b) (hnd : l.Nodup) (hz : l.length ≤ 100000) (hE : E[i]? = some (some (.d (.tuple (L.ens l))))) (hj : j < E.length) :
    mDc (mIt (mBor i)) (tgN j) mYes (mVar j) (Rd.ok v) [j] E G = some (.ok (L.dc v l), G) := by
  refine mDc_ok (ds := L.ens l) (G1 := G) (mItT (by unfold mBor; rw [hE])) (by unfold Lot.ens; rw [List.length_map]; exact hz) ?_
  refine dcRun_all (e := L.en) L.key (fun _ => v) (L.nd_key hnd) (fun a _ b _ => L.like a b) fun a _ => ⟨_, L.en a, rfl, ?_, keyOf_keyG _, rfl⟩
  unfold mVar
  rw [List.getElem?_set_self (by rw [wipeE_length]; exact hj)]
theorem kinds_ok {S : Sch} (h : SOk S) {T : Kd} {w b : PyData} (st : ∀ s ∈ S.ss, (T s).Nodup ∧ (T s).length ≤ 1000) (G : Rng) : f_things_by_sort [.d (schD S), .d (.tuple [w, .tuple (S.ss.map fun s => .tuple (lotI.ens (T s))), b])] G = some (.ret (.dict (kvL kS (fun s => lotI.dc (.bool true) (T s)) S.ss)), G) := by
  have hl := h.ls
  refine fnD_ret (sRet_ok (mDc_ok (ds := S.ss.map fun s => .tuple [.str s, .tuple (lotI.ens (T s))]) (G1 := G) (mZip_map (a := .str) (b := fun s => .tuple (lotI.ens (T s))) (G1 := G) rfl rfl) (by rw [List.length_map]; omega) ?_))
  refine dcRun_all kS (fun s => lotI.dc (.bool true) (T s)) (nd_kS hl.2.2) (fun _ _ _ _ => rfl) fun s hs => ⟨_, .str s, rfl, rfl, rfl, ?_⟩
  exact dc_ok lotI (b := true) (i := 3) (j := 4) (by decide) rfl (st s hs).1 (by have := (st s hs).2; omega) rfl (by simp [wipeE_length, argE])
/-- rows that were found right -/
theorem own_rows {T : Kd} {r : Rl} {es : List PyData} (h : es.all (rowB T r) = true) : es = (es.map nums).map tupI ∧ ∀ k ∈ es.map nums, k.length = r.2.length ∧ TS.Bd 1000 k := by
  rw [List.all_eq_true] at h
  have f : ∀ e ∈ es, e = tupI (nums e) ∧ (nums e).length = r.2.length ∧ TS.Bd 1000 (nums e) := fun e he => by
    have := h e he
    unfold rowB at this
    rw [Bool.and_eq_true, Bool.and_eq_true] at this
    obtain ⟨q1, q2⟩ := tupNum_of this.1
    exact ⟨q1, of_decide_eq_true this.2.1, fun n hn => by have := q2 n hn; omega⟩
  refine ⟨?_, fun k hk => ?_⟩
  · rw [List.map_map]
    conv => lhs; rw [← List.map_id es]
    exact List.map_congr_left fun e he => (f e he).1
  · obtain ⟨e, he, rfl⟩ := List.mem_map.mp hk
    exact (f e he).2
theorem SOk.pl {S : Sch} (h : SOk S) {r : Rl} (hr : r ∈ S.rs) : (∀ s ∈ r.2, s ∈ S.ss) ∧ 1 ≤ r.2.length ∧ r.2.length ≤ 2 := by
  have := (h.p r hr).2
  unfold plc at this
  rw [List.mem_append, List.mem_map, List.mem_flatMap] at this
  rcases this with ⟨a, ha, e⟩ | ⟨a, ha, e⟩
  · rw [← e]
    exact ⟨fun s hs => by rw [List.mem_singleton.mp hs]; exact ha, by simp, by simp⟩
  · obtain ⟨b, hb, e⟩ := List.mem_map.mp e
    rw [← e]
    refine ⟨fun s hs => ?_, by simp, by simp⟩
    simp only [List.mem_cons, List.not_mem_nil, or_false] at hs
    rcases hs with rfl | rfl
    · exact ha
    · exact hb
/-- what both judges know of the things -/
structure Kn2 (S : Sch) (ts : List PyData) : Prop where
  eq : ts = S.ss.map (fun s => .tuple (lotI.ens (kOf S.ss ts s)))
  nd : ∀ s ∈ S.ss, (kOf S.ss ts s).Nodup ∧ (kOf S.ss ts s).length ≤ 1000
theorem kn2_of {S : Sch} (h : SOk S) {ts : List PyData} (hl : ts.length = S.ss.length) (ha : ts.all thingB = true) (hz : ∀ t ∈ ts, Lim 1 t) : Kn2 S ts := by
  rw [List.all_eq_true] at ha
  have tn : ∀ t ∈ ts, tupNum t = true ∧ riseI (nums t) = true := fun t ht => by
    have := ha t ht
    unfold thingB at this
    rwa [Bool.and_eq_true] at this
  obtain ⟨e1, e2⟩ := kOf_eq h.ls.2.2 hl fun t ht => (tn t ht).1
  refine ⟨e1, fun s hs => ?_⟩
  obtain ⟨t, ht, e⟩ := e2 s hs
  rw [e]
  refine ⟨((riseI_iff _).mp (tn t ht).2).imp fun q => Int.ne_of_lt q, ?_⟩
  cases t with
  | tuple ds =>
    have := (Lim.len (hz _ ht)).1
    have h2 : (nums (.tuple ds)).length ≤ ds.length := List.length_filterMap_le _ _
    omega
  | _ => exact Nat.zero_le _
theorem ix0 {w a b : PyData} : ixD (.tuple [w, a, b]) (.int 0) = some w := rfl
theorem ix1 {w a b : PyData} : ixD (.tuple [w, a, b]) (.int 1) = some a := rfl
theorem ix2 {w a b : PyData} : ixD (.tuple [w, a, b]) (.int 2) = some b := rfl
theorem stB_len {S : Sch} {ds : List PyData} (h : ds.length ≠ 3) : stB S (.tuple ds) = false := by
  unfold stB
  split
  · rename_i heq
    injection heq with e
    rw [e] at h
    exact absurd rfl h
  · rfl
/-- the program -/
theorem isp_ok {S : Sch} (h : SOk S) {v : PyData} (hz : Lim 4 v) (G : Rng) : f_is_store [.d (schD S), .d v] G = some (.ret (.bool (stB S v)), G) := by
  obtain ⟨l1, l2, l3⟩ := h.ls
  obtain ⟨r1, r2, r3⟩ := h.lr
  refine fnD_ret ?_
  generalize hsc : schD S = sc
  have c1 : ixD sc (.int 1) = some (.tuple (strL S.ss)) := by rw [← hsc]; rfl
  have c2 : ixD sc (.int 2) = some (.tuple (S.rs.map relD)) := by rw [← hsc]; rfl
  have nd := need_ok h G
  rw [hsc] at nd
  have kk := fun T w b st => kinds_ok h (T := T) (w := w) (b := b) st G
  rw [hsc] at kk
  have a1 : argE 11 [.d sc, .d v] = [some (.d sc), some (.d v), none, none, none, none, none, none, none, none, none] := rfl
  rw [a1]
  unfold m_is_store
  refine nx_ok [some (.d sc), some (.d v), none, none, none, none, none, none, none, none, none] ?_ ?_
  · unfold sDrop
    rw [rdS_ok (mCallZ_ok (aD_ok (d := sc) (G1 := G) rfl aNil_ok) nd)]
  have b1 : mBor 1 [some (.d sc), some (.d v), none, none, none, none, none, none, none, none, none] G = some (.ok v, G) := rfl
  cases v with
  | tuple ds =>
    by_cases h3 : ds.length = 3
    case neg =>
      refine step_ok (k := true) (or_b (x := false) (y := true) (nt_ok b1) fun _ => or_b (x := true) (y := false) ?_ fun q => by cases q) (fun _ => stB_len h3) fun q => by cases q
      refine mT_ok (mOp_ok (mLen b1) (b := .int 3) (G1 := G) rfl ((ne_int _ _).trans ?_))
      rw [decide_eq_false (by omega)]
      rfl
    match ds, h3 with
    | [w, a, b], _ =>
    obtain ⟨_, hz3⟩ := hz.len
    have hza := hz3 a (by simp)
    have hzb := hz3 b (by simp)
    have x0 : (mOp ixD (mBor 1) (Rd.ok (.int 0))) [some (.d sc), some (.d (.tuple [w, a, b])), none, none, none, none, none, none, none, none, none] G = some (.ok w, G) := mOp_ok b1 rfl ix0
    have t3 : (mT (mOp neD (mCallB lenF (mCons (mBor 1) mNil)) (Rd.ok (.int 3)))) [some (.d sc), some (.d (.tuple [w, a, b])), none, none, none, none, none, none, none, none, none] G = some (.ok false, G) := mT_ok (mOp_ok (mLen b1) (b := .int 3) (G1 := G) rfl (ne_int _ _))
    have head : ∀ (y : Bool), (isStr w = true → mT (mOp neD (mOp ixD (mBor 1) (Rd.ok (.int 0))) (Rd.ok (.str (Str.ofString "store")))) [some (.d sc), some (.d (.tuple [w, a, b])), none, none, none, none, none, none, none, none, none] G = some (.ok y, G)) →
        mOr (mNot (mT (mIsi isTup (mBor 1)))) (mOr (mT (mOp neD (mCallB lenF (mCons (mBor 1) mNil)) (Rd.ok (.int 3)))) (mOr (mNot (mT (mIsi isStr (mOp ixD (mBor 1) (Rd.ok (.int 0)))))) (mT (mOp neD (mOp ixD (mBor 1) (Rd.ok (.int 0))) (Rd.ok (.str (Str.ofString "store"))))))) [some (.d sc), some (.d (.tuple [w, a, b])), none, none, none, none, none, none, none, none, none] G = some (.ok (!isStr w || y), G) := fun y hy =>
      (or_b (x := false) (y := !isStr w || y) (nt_ok b1) fun _ => or_b (x := false) (y := !isStr w || y) t3 fun _ => or_b (nt_ok x0) fun q => hy (by simpa using q))
    cases w with
    | str z =>
      refine step_ok (head (!(z == Str.ofString "store")) fun _ => mT_ok (mOp_ok x0 (b := .str (Str.ofString "store")) (G1 := G) rfl (ne_str _ _))) (fun q => ?_) fun q => ?_
      · have : (z == Str.ofString "store") = false := by simpa [isStr] using q
        cases a <;> first | rfl | skip
        cases b <;> first | rfl | skip
        show ((z == Str.ofString "store") && _) = false
        rw [this]
        rfl
      have hw : (z == Str.ofString "store") = true := by simpa [isStr] using q
      refine nx_ok [some (.d sc), some (.d (.tuple [.str z, a, b])), some (.d (.str z)), some (.d a), some (.d b), none, none, none, none, none, none] rfl ?_
      have b3 : mBor 3 [some (.d sc), some (.d (.tuple [.str z, a, b])), some (.d (.str z)), some (.d a), some (.d b), none, none, none, none, none, none] G = some (.ok a, G) := rfl
      have b4 : mBor 4 [some (.d sc), some (.d (.tuple [.str z, a, b])), some (.d (.str z)), some (.d a), some (.d b), none, none, none, none, none, none] G = some (.ok b, G) := rfl
      have s1 : (mOp ixD (mBor 0) (Rd.ok (.int 1))) [some (.d sc), some (.d (.tuple [.str z, a, b])), some (.d (.str z)), some (.d a), some (.d b), none, none, none, none, none, none] G = some (.ok (.tuple (strL S.ss)), G) := mOp_ok (a := sc) (b := .int 1) (G1 := G) rfl rfl c1
      have s2 : (mOp ixD (mBor 0) (Rd.ok (.int 2))) [some (.d sc), some (.d (.tuple [.str z, a, b])), some (.d (.str z)), some (.d a), some (.d b), none, none, none, none, none, none] G = some (.ok (.tuple (S.rs.map relD)), G) := mOp_ok (a := sc) (b := .int 2) (G1 := G) rfl rfl c2
      cases a with
      | tuple ts =>
        have sl : (strL S.ss).length = S.ss.length := by simp [strL]
        obtain ⟨tz, tz2⟩ := hza.len
        have at1 : ∀ t ∈ ts, ∀ ds, t = .tuple ds → ds.length ≤ 100000 := fun t ht ds e => by have := (tz2 t ht) ds e; omega
        have itA : mIt (mBor 3) [some (.d sc), some (.d (.tuple [.str z, .tuple ts, b])), some (.d (.str z)), some (.d (.tuple ts)), some (.d b), none, none, none, none, none, none] G = some (.ok (ts.map id), G) := by rw [List.map_id]; exact mItT b3
        refine step_ok (or_b (x := false) (y := !decide (ts.length = S.ss.length) || !ts.all thingB) (nt_ok b3) fun _ => or_b (x := !decide (ts.length = S.ss.length)) (y := !ts.all thingB) (by rw [← sl]; exact mNeLen b3 s1) fun _ => mNot_ok (mT_ok (all_ok (e := id) (l := ts) thingB itA (by omega) fun t ht => ⟨[some (.d sc), some (.d (.tuple [.str z, .tuple ts, b])), some (.d (.str z)), some (.d (.tuple ts)), some (.d b), none, none, none, none, some (.d t), none], rfl, mCallZ_ok (aD_ok (d := t) (G1 := G) rfl aNil_ok) (things_ok (at1 t ht) G)⟩))) (fun q => ?_) fun q => ?_
        · cases b <;> first | rfl | skip
          show ((z == Str.ofString "store") && (decide (ts.length = S.ss.length) && (ts.all thingB && _))) = false
          cases h5 : decide (ts.length = S.ss.length) with
          | false => simp
          | true =>
            rw [h5] at q
            have : ts.all thingB = false := by simpa using q
            rw [this]
            simp
        have q1 : ts.length = S.ss.length := by
          cases h5 : decide (ts.length = S.ss.length) with
          | false => rw [h5] at q; simp at q
          | true => exact of_decide_eq_true h5
        have q2 : ts.all thingB = true := by
          cases h5 : ts.all thingB with
          | false => rw [h5] at q; simp at q
          | true => rfl
        cases b with
        | tuple rs =>
          have goal : stB S (.tuple [.str z, .tuple ts, .tuple rs]) = (decide (rs.length = S.rs.length) && (rs.all isTup && (S.rs.zip rs).all fun p => ownB (kOf S.ss ts) p.1 p.2)) := by
            show ((z == Str.ofString "store") && (decide (ts.length = S.ss.length) && (ts.all thingB && _))) = _
            rw [hw, decide_eq_true q1, q2]
            rfl
          rw [goal]
          obtain ⟨rz, rz2⟩ := hzb.len
          have rl : (S.rs.map relD).length = S.rs.length := by simp
          refine step_ok (or_b (x := false) (y := !decide (rs.length = S.rs.length)) (nt_ok b4) fun _ => (by rw [← rl]; exact mNeLen b4 s2)) (fun q => ?_) fun q => ?_
          · have : decide (rs.length = S.rs.length) = false := by simpa using q
            rw [this]
            rfl
          have q3 : rs.length = S.rs.length := by simpa using q
          rw [decide_eq_true q3, Bool.true_and]
          have itB : mIt (mBor 4) [some (.d sc), some (.d (.tuple [.str z, .tuple ts, .tuple rs])), some (.d (.str z)), some (.d (.tuple ts)), some (.d (.tuple rs)), none, none, none, none, none, none] G = some (.ok (rs.map id), G) := by rw [List.map_id]; exact mItT b4
          refine step_ok (mNot_ok (mT_ok (all_ok (e := id) (l := rs) isTup itB (by omega) fun t ht => ⟨[some (.d sc), some (.d (.tuple [.str z, .tuple ts, .tuple rs])), some (.d (.str z)), some (.d (.tuple ts)), some (.d (.tuple rs)), none, none, none, none, some (.d t), none], rfl, mIsi_ok rfl⟩))) (fun q => ?_) fun q => ?_
          · have : rs.all isTup = false := by simpa using q
            rw [this]
            rfl
          have q4 : rs.all isTup = true := by simpa using q
          rw [q4, Bool.true_and]
          have kn := kn2_of h q1 q2 fun t ht => fun ds e => ⟨((tz2 t ht) ds e).1, fun _ _ => trivial⟩
          have kd : f_things_by_sort [.d sc, .d (.tuple [.str z, .tuple ts, .tuple rs])] G = some (.ret (.dict (kvL kS (fun s => lotI.dc (.bool true) (kOf S.ss ts s)) S.ss)), G) := by
            have := kk (kOf S.ss ts) (.str z) (.tuple rs) kn.nd
            rw [← kn.eq] at this
            exact this
          generalize hkd : PyData.dict (kvL kS (fun s => lotI.dc (.bool true) (kOf S.ss ts s)) S.ss) = kdd at kd
          refine nx_ok [some (.d sc), some (.d (.tuple [.str z, .tuple ts, .tuple rs])), some (.d (.str z)), some (.d (.tuple ts)), some (.d (.tuple rs)), some (.d kdd), none, none, none, none, none] (sSet_ok (vD_ok (mCallZ_ok (aD_ok (d := sc) (G1 := G) rfl (aD_ok (d := .tuple [.str z, .tuple ts, .tuple rs]) (G1 := G) rfl aNil_ok)) kd))) ?_
          refine for_ok (e := fun p : Rl × PyData => .tuple [relD p.1, p.2]) (l := S.rs.zip rs) (p := fun p => ownB (kOf S.ss ts) p.1 p.2)
            (I := fun E => ∃ x6 x7 x8, E = [some (.d sc), some (.d (.tuple [.str z, .tuple ts, .tuple rs])), some (.d (.str z)), some (.d (.tuple ts)), some (.d (.tuple rs)), some (.d kdd), x6, x7, x8, none, none])
            (by rw [mZip_ok (ds := S.rs.map relD) (es := rs) (G1 := G) (mOp_ok (a := sc) (b := .int 2) (G1 := G) rfl rfl c2) rfl, zipD_gen]) ⟨none, none, none, rfl⟩ ?_ (fun q => q) (fun q E' _ => by rw [q]; rfl)
          rintro ⟨r, own⟩ hb E ⟨x6, x7, x8, rfl⟩
          have hm := List.of_mem_zip hb
          have ho : isTup own = true := List.all_eq_true.mp q4 own hm.2
          cases own with
          | tuple es =>
            obtain ⟨p1, p2, p3⟩ := h.pl hm.1
            obtain ⟨ez, ez2⟩ := (rz2 _ hm.2).len
            refine ⟨[some (.d sc), some (.d (.tuple [.str z, .tuple ts, .tuple rs])), some (.d (.str z)), some (.d (.tuple ts)), some (.d (.tuple rs)), some (.d kdd), some (.d (.str r.1)), some (.d (.tuple (strL r.2))), some (.d (.tuple es)), none, none], rfl, ?_⟩
            have b8 : mBor 8 [some (.d sc), some (.d (.tuple [.str z, .tuple ts, .tuple rs])), some (.d (.str z)), some (.d (.tuple ts)), some (.d (.tuple rs)), some (.d kdd), some (.d (.str r.1)), some (.d (.tuple (strL r.2))), some (.d (.tuple es)), none, none] G = some (.ok (.tuple es), G) := rfl
            have it8 : mIt (mBor 8) [some (.d sc), some (.d (.tuple [.str z, .tuple ts, .tuple rs])), some (.d (.str z)), some (.d (.tuple ts)), some (.d (.tuple rs)), some (.d kdd), some (.d (.str r.1)), some (.d (.tuple (strL r.2))), some (.d (.tuple es)), none, none] G = some (.ok (es.map id), G) := by rw [List.map_id]; exact mItT b8
            have row : ∀ e ∈ es, f_is_row_of [.d kdd, .d (.tuple (strL r.2)), .d e] G = some (.ret (.bool (rowB (kOf S.ss ts) r e)), G) := fun e he => by
              rw [← hkd]
              exact rowp_ok l3 p1 (by omega) (fun ds ed => by have := (ez2 e he) ds ed; omega) G
            have tst : (mOr (mNot (mT (mCallB allF (mCons (mLc (mIt (mBor 8)) (tgN 10) mYes (mCallZ f_is_row_of (aD (mVar 5) (aD (mVar 7) (aD (mVar 10) aNil)))) [10]) mNil)))) (mNot (mT (mCallZ f_are_rising (aD (mVar 8) aNil))))) [some (.d sc), some (.d (.tuple [.str z, .tuple ts, .tuple rs])), some (.d (.str z)), some (.d (.tuple ts)), some (.d (.tuple rs)), some (.d kdd), some (.d (.str r.1)), some (.d (.tuple (strL r.2))), some (.d (.tuple es)), none, none] G =
                some (.ok (!ownB (kOf S.ss ts) r (.tuple es)), G) := by
              refine (or_b (x := !es.all (rowB (kOf S.ss ts) r)) (y := !chB HT.lexLt (es.map nums)) (mNot_ok (mT_ok (all_ok (e := id) (l := es) (rowB (kOf S.ss ts) r) it8 (by omega) fun e he => ⟨[some (.d sc), some (.d (.tuple [.str z, .tuple ts, .tuple rs])), some (.d (.str z)), some (.d (.tuple ts)), some (.d (.tuple rs)), some (.d kdd), some (.d (.str r.1)), some (.d (.tuple (strL r.2))), some (.d (.tuple es)), none, some (.d e)], rfl, mCallZ_ok (aD_ok (d := kdd) (G1 := G) rfl (aD_ok (d := .tuple (strL r.2)) (G1 := G) rfl (aD_ok (d := e) (G1 := G) rfl aNil_ok))) (row e he)⟩))) fun q => ?_).trans ?_
              · have q : es.all (rowB (kOf S.ss ts) r) = true := by simpa using q
                obtain ⟨o1, o2⟩ := own_rows q
                refine mNot_ok (mT_ok (mCallZ_ok (aD_ok (d := .tuple es) (G1 := G) rfl aNil_ok) ?_))
                have := rising_ok (e := tupI) (r := HT.lexLt) (l := es.map nums) (fun a _ b _ => by
                  show (match intsOf (a.map .int), intsOf (b.map .int) with | some ns, some ms => some (PyData.bool (HT.lexLt ns ms)) | _, _ => none) = _
                  rw [ints_of, ints_of]) (by rw [List.length_map]; omega) G
                rw [← o1] at this
                exact this
              · show _ = some (Except.ok (!(es.all (rowB (kOf S.ss ts) r) && chB HT.lexLt (es.map nums))), G)
                rw [Bool.not_and]
            obtain ⟨k1, k2⟩ := body_ok tst
            exact ⟨fun hk => let ⟨E2, w1, w2⟩ := k1 hk; ⟨E2, w1, _, _, _, w2⟩, k2⟩
          | _ => cases ho
        | _ => exact step_ok (k := true) (or_b (x := true) (y := false) (nt_ok b4) fun q => by cases q) (fun _ => rfl) fun q => by cases q
      | _ => exact step_ok (k := true) (or_b (x := true) (y := false) (nt_ok b3) fun q => by cases q) (fun _ => rfl) fun q => by cases q
    | _ => exact step_ok (head false fun q => by cases q) (fun _ => rfl) fun q => by cases q
  | _ => exact step_ok (k := true) (or_b (x := true) (y := false) (nt_ok b1) fun q => by cases q) (fun _ => rfl) fun q => by cases q
end Zd

set_option maxRecDepth 100000
set_option maxHeartbeats 4000000
namespace Zd
open PySem PySem.Spec L2
open PyProof.Rows hiding St

/-! ### k59: the law's own judge -/
theorem ens_len {α : Type} [DecidableEq α] (L : Lot α) (l : List α) : (L.ens l).length = l.length := by simp [Lot.ens]
theorem srt_test {α : Type} [DecidableEq α] (L : Lot α) {l : List α} (hz : l.length ≤ 1000) (sd : ∃ d, dictXF [.list (l.map fun n => .tuple [L.en n, .int 1])] = some d ∧ sortY [d] = some (.list (L.ens (L.srt l)))) {E : Evn} {G : Rng} {i j : Nat} (hE : E[i]? = some (some (.d (.tuple (L.ens l))))) (hj : j < E.length) :
    (mT (mOp neD (mCallB lstF (mCons (mBor i) mNil)) (mCallB sortY (mCons (mCallB dictXF (mCons (mLc (mIt (mBor i)) (tgN j) mYes (mTup (mCons (mVar j) (mCons (Rd.ok (.int 1)) mNil))) [j]) mNil)) mNil)))) E G = some (.ok (!decide (l = L.srt l)), G) := by
  have b : mBor i E G = some (.ok (.tuple (L.ens l)), G) := by unfold mBor; rw [hE]
  obtain ⟨d, d1, d2⟩ := sd
  refine mT_ok (mOp_ok (a := .list (L.ens l)) (b := .list (L.ens (L.srt l))) (G1 := G) (mCall1_ok b rfl) (mCall1_ok (a := d) (G1 := G) (mCall1_ok (mLc_ok (ds := L.ens l) (G1 := G) (mItT b) (by rw [ens_len]; omega) (lcRun_all (e := L.en) (fun n => .tuple [L.en n, .int 1]) fun n hn => ⟨_, rfl, mTup_ok (mCons_ok (d := L.en n) (G1 := G) ?_ (mCons_ok (d := .int 1) (G1 := G) rfl mNil_ok)) (by simp)⟩)) d1) d2) (ne_ens L l (L.srt l)))
  unfold mVar
  rw [List.getElem?_set_self (by rw [wipeE_length]; exact hj)]
theorem thing_test {t : PyData} (hz : Lim 1 t) {E : Evn} {G : Rng} {i j : Nat} (hE : E[i]? = some (some (.d t))) (hj : j < E.length) :
    (mOr (mNot (mT (mCallZ f_law_are_numbers (aD (mVar i) aNil)))) (mT (mOp neD (mCallB lstF (mCons (mBor i) mNil)) (mCallB sortY (mCons (mCallB dictXF (mCons (mLc (mIt (mBor i)) (tgN j) mYes (mTup (mCons (mVar j) (mCons (Rd.ok (.int 1)) mNil))) [j]) mNil)) mNil))))) E G = some (.ok (!thingB t), G) := by
  refine (or_b (x := !tupNum t) (y := !riseI (nums t)) (mNot_ok (mT_ok (mCallZ_ok (aD_ok (d := t) (G1 := G) (by unfold mVar; rw [hE]) aNil_ok) (lnum_ok (fun ds e => by have := (hz ds e).1; omega) G)))) fun q => ?_).trans (by unfold thingB; rw [Bool.not_and])
  have q : tupNum t = true := by simpa using q
  obtain ⟨q1, q2⟩ := tupNum_of q
  have hl : (nums t).length < 64 := by
    have := (hz _ q1).1
    rw [List.length_map] at this
    omega
  have hE' : E[i]? = some (some (.d (.tuple (lotI.ens (nums t))))) := by rw [hE]; exact congrArg (fun d => some (some (EV.d d))) q1
  refine (srt_test lotI (by omega) (sd_I _ hl) hE' hj).trans ?_
  have : decide (nums t = lotI.srt (nums t)) = riseI (nums t) := by
    rw [Bool.eq_iff_iff, decide_eq_true_eq, riseI_iff]
    exact is_srt lotI fun _ _ => trivial
  rw [this]
theorem riseR_iff {d : Nat} (hd : 1 ≤ d) {l : List (List Int)} (he : ∀ x ∈ l, (lotR d hd).el x) : chB HT.lexLt l = decide (l = (lotR d hd).srt l) := by
  rw [Bool.eq_iff_iff, decide_eq_true_eq, is_srt (lotR d hd) he]
  have e : ∀ a ∈ l, ∀ b ∈ l, HT.lexLt a b = decide (TS.code 1000 a < TS.code 1000 b) := fun a ha b hb => by
    have ea : a.length = d ∧ TS.Bd 1000 a := he a ha
    have eb : b.length = d ∧ TS.Bd 1000 b := he b hb
    exact lex_code_b (ea.1.trans eb.1.symm) ea.2 eb.2
  rw [chB_pw fun a ha b hb c hc h1 h2 => by
    rw [e a ha b hb, decide_eq_true_eq] at h1
    rw [e b hb c hc, decide_eq_true_eq] at h2
    rw [e a ha c hc, decide_eq_true_eq]
    omega]
  show _ ↔ l.Pairwise fun a b => TS.code 1000 a < TS.code 1000 b
  constructor
  · exact fun h => h.imp_of_mem fun {a b} ha hb q => by rwa [e a ha b hb, decide_eq_true_eq] at q
  · exact fun h => h.imp_of_mem fun {a b} ha hb q => by rwa [e a ha b hb, decide_eq_true_eq]
theorem merge_zip {β : Type} (nm : β → Str) (g : β → PyData) {l : List β} (nd : (l.map fun b => kS (nm b)).Nodup) : mergeD [] ((l.map fun b => (Sum.inr (nm b) : Key)).zip (l.map g)) = kvL (fun b => kS (nm b)) g l := by
  have e : (l.map fun b => (Sum.inr (nm b) : Key)).zip (l.map g) = l.map fun b => ((Sum.inr (nm b) : Key), g b) := by
    clear nd
    induction l with
    | nil => rfl
    | cons b l ih => rw [List.map_cons, List.map_cons, List.zip_cons_cons, ih, List.map_cons]
  rw [e]
  unfold mergeD
  rw [List.foldl_map]
  have := kvL_fold (fun b => kS (nm b)) g (l := l) (acc := []) (by simpa using nd)
  rw [List.nil_append] at this
  exact this
theorem keysK_strs : ∀ l : List Str, keysK (strL l) = some (l.map fun z => Sum.inr z)
  | [] => rfl
  | z :: l => by
    show (keyK (.str z)).bind (fun k => (keysK (strL l)).map (k :: ·)) = _
    rw [keysK_strs l]
    rfl
/-- the test of a row -/
theorem rowl_test {ss : List Str} (nd : ss.Nodup) {T : Kd} {r : Rl} (hr : ∀ s ∈ r.2, s ∈ ss) (hl : r.2.length ≤ 10) {d : PyData} (hz : ∀ ds, d = .tuple ds → ds.length ≤ 1000) {x0 x1 x2 x4 x6 : Option EV} {G : Rng} :
    (mOr (mNot (mT (mCallZ f_law_are_numbers (aD (mVar 7) aNil)))) (mOr (mT (mOp neD (mCallB lenF (mCons (mBor 7) mNil)) (mCallB lenF (mCons (mBor 5) mNil)))) (mT (mOp neD (mLc (mZip (mBor 5) (mBor 7)) (tgT 2 (tgCons (tgN 9) (tgCons (tgN 8) tgNil))) (mT (mOp ninD (mBor 8) (mOp ixD (mBor 3) (mBor 9)))) (Rd.ok (.int 1)) [9, 8]) (mLst mNil)))))
      [x0, x1, x2, some (.own (.dict (kvL kS (fun s => .tuple (lotI.ens (T s))) ss))), x4, some (.d (.tuple (strL r.2))), x6, some (.d d), none, none] G = some (.ok (!rowB T r d), G) := by
  generalize hk : PyData.dict (kvL kS (fun s => .tuple (lotI.ens (T s))) ss) = kd
  have b5 : mBor 5 [x0, x1, x2, some (.own kd), x4, some (.d (.tuple (strL r.2))), x6, some (.d d), none, none] G = some (.ok (.tuple (strL r.2)), G) := rfl
  have b7 : mBor 7 [x0, x1, x2, some (.own kd), x4, some (.d (.tuple (strL r.2))), x6, some (.d d), none, none] G = some (.ok d, G) := rfl
  refine (or_b (x := !tupNum d) (y := !(decide ((nums d).length = r.2.length) && (r.2.zip (nums d)).all fun p => decide (p.2 ∈ T p.1))) (mNot_ok (mT_ok (mCallZ_ok (aD_ok (d := d) (G1 := G) rfl aNil_ok) (lnum_ok (fun ds e => by have := hz ds e; omega) G)))) fun q => ?_).trans (by unfold rowB; rw [Bool.not_and (tupNum d)])
  have q : tupNum d = true := by simpa using q
  obtain ⟨q1, q2⟩ := tupNum_of q
  generalize nums d = ns at *
  subst q1
  have hl2 : (strL r.2).length = r.2.length := by simp [strL]
  refine (or_b (x := !decide (ns.length = r.2.length)) (y := !(r.2.zip ns).all fun p => decide (p.2 ∈ T p.1)) ?_ fun _ => ?_).trans (by rw [Bool.not_and])
  · have := mNeLen b7 b5
    rw [List.length_map, hl2] at this
    exact this
  · have it : mZip (mBor 5) (mBor 7) [x0, x1, x2, some (.own kd), x4, some (.d (.tuple (strL r.2))), x6, some (.d (.tuple (ns.map .int))), none, none] G = some (.ok ((r.2.zip ns).map fun p => .tuple [.str p.1, .int p.2]), G) := by
      rw [mZip_ok b5 b7, zipD_zip]
    refine mT_ok (mOp_ok (mLc_ok it (by rw [List.length_map, List.length_zip]; omega) (lcRun_map (e := fun p : Str × Int => .tuple [.str p.1, .int p.2]) (fun p => !decide (p.2 ∈ T p.1)) (fun _ => .int 1) fun p hp => ⟨[x0, x1, x2, some (.own kd), x4, some (.d (.tuple (strL r.2))), x6, some (.d (.tuple (ns.map .int))), some (.d (.int p.2)), some (.d (.str p.1))], rfl, ?_, fun _ => rfl⟩)) (mLst_ok mNil_ok (by simp)) ((ones_ne _).trans ?_))
    · have hs : p.1 ∈ ss := hr p.1 (List.of_mem_zip hp).1
      have c1 : (mOp ixD (mBor 3) (mBor 9)) [x0, x1, x2, some (.own kd), x4, some (.d (.tuple (strL r.2))), x6, some (.d (.tuple (ns.map .int))), some (.d (.int p.2)), some (.d (.str p.1))] G = some (.ok (.tuple (lotI.ens (T p.1))), G) := by
        refine mOp_ok (a := kd) (b := .str p.1) (G1 := G) rfl rfl ?_
        rw [← hk]
        exact kinds_ix nd _ hs
      exact mT_ok (mOp_ok (a := .int p.2) (G1 := G) rfl c1 (ninD_ok (lotI.in_tup p.2 (T p.1))))
    · rw [filter_all]
theorem isl_ok {S : Sch} (h : SOk S) {v : PyData} (hz : Lim 4 v) (G : Rng) : f_law_is_store [.d (schD S), .d v] G = some (.ret (.bool (stB S v)), G) := by
  obtain ⟨l1, l2, l3⟩ := h.ls
  obtain ⟨r1, r2, r3⟩ := h.lr
  refine fnD_ret ?_
  generalize hsc : schD S = sc
  have c1 : ixD sc (.int 1) = some (.tuple (strL S.ss)) := by rw [← hsc]; rfl
  have c2 : ixD sc (.int 2) = some (.tuple (S.rs.map relD)) := by rw [← hsc]; rfl
  have a1 : argE 10 [.d sc, .d v] = [some (.d sc), some (.d v), none, none, none, none, none, none, none, none] := rfl
  rw [a1]
  unfold m_law_is_store
  have b1 : mBor 1 [some (.d sc), some (.d v), none, none, none, none, none, none, none, none] G = some (.ok v, G) := rfl
  cases v with
  | tuple ds =>
    by_cases h3 : ds.length = 3
    case neg =>
      refine step_ok (k := true) (or_b (x := false) (y := true) (nt_ok b1) fun _ => or_b (x := true) (y := false) ?_ fun q => by cases q) (fun _ => stB_len h3) fun q => by cases q
      refine mT_ok (mOp_ok (mLen b1) (b := .int 3) (G1 := G) rfl ((ne_int _ _).trans ?_))
      rw [decide_eq_false (by omega)]
      rfl
    match ds, h3 with
    | [w, a, b], _ =>
    obtain ⟨_, hz3⟩ := hz.len
    have hza := hz3 a (by simp)
    have hzb := hz3 b (by simp)
    have x0 : (mOp ixD (mBor 1) (Rd.ok (.int 0))) [some (.d sc), some (.d (.tuple [w, a, b])), none, none, none, none, none, none, none, none] G = some (.ok w, G) := mOp_ok b1 rfl ix0
    have x1 : (mOp ixD (mBor 1) (Rd.ok (.int 1))) [some (.d sc), some (.d (.tuple [w, a, b])), none, none, none, none, none, none, none, none] G = some (.ok a, G) := mOp_ok b1 rfl ix1
    have x2 : (mOp ixD (mBor 1) (Rd.ok (.int 2))) [some (.d sc), some (.d (.tuple [w, a, b])), none, none, none, none, none, none, none, none] G = some (.ok b, G) := mOp_ok b1 rfl ix2
    have s1 : (mOp ixD (mBor 0) (Rd.ok (.int 1))) [some (.d sc), some (.d (.tuple [w, a, b])), none, none, none, none, none, none, none, none] G = some (.ok (.tuple (strL S.ss)), G) := mOp_ok (a := sc) (b := .int 1) (G1 := G) rfl rfl c1
    have s2 : (mOp ixD (mBor 0) (Rd.ok (.int 2))) [some (.d sc), some (.d (.tuple [w, a, b])), none, none, none, none, none, none, none, none] G = some (.ok (.tuple (S.rs.map relD)), G) := mOp_ok (a := sc) (b := .int 2) (G1 := G) rfl rfl c2
    have t3 : (mT (mOp neD (mCallB lenF (mCons (mBor 1) mNil)) (Rd.ok (.int 3)))) [some (.d sc), some (.d (.tuple [w, a, b])), none, none, none, none, none, none, none, none] G = some (.ok false, G) := mT_ok (mOp_ok (mLen b1) (b := .int 3) (G1 := G) rfl (ne_int _ _))
    have head : ∀ (y : Bool), (isStr w = true → mT (mOp neD (mOp ixD (mBor 1) (Rd.ok (.int 0))) (Rd.ok (.str (Str.ofString "store")))) [some (.d sc), some (.d (.tuple [w, a, b])), none, none, none, none, none, none, none, none] G = some (.ok y, G)) →
        mOr (mNot (mT (mIsi isTup (mBor 1)))) (mOr (mT (mOp neD (mCallB lenF (mCons (mBor 1) mNil)) (Rd.ok (.int 3)))) (mOr (mNot (mT (mIsi isStr (mOp ixD (mBor 1) (Rd.ok (.int 0)))))) (mT (mOp neD (mOp ixD (mBor 1) (Rd.ok (.int 0))) (Rd.ok (.str (Str.ofString "store"))))))) [some (.d sc), some (.d (.tuple [w, a, b])), none, none, none, none, none, none, none, none] G = some (.ok (!isStr w || y), G) := fun y hy =>
      (or_b (x := false) (y := !isStr w || y) (nt_ok b1) fun _ => or_b (x := false) (y := !isStr w || y) t3 fun _ => or_b (nt_ok x0) fun q => hy (by simpa using q))
    cases w with
    | str z =>
      refine step_ok (head (!(z == Str.ofString "store")) fun _ => mT_ok (mOp_ok x0 (b := .str (Str.ofString "store")) (G1 := G) rfl (ne_str _ _))) (fun q => ?_) fun q => ?_
      · have : (z == Str.ofString "store") = false := by simpa [isStr] using q
        cases a <;> first | rfl | skip
        cases b <;> first | rfl | skip
        show ((z == Str.ofString "store") && _) = false
        rw [this]
        rfl
      have hw : (z == Str.ofString "store") = true := by simpa [isStr] using q
      cases a with
      | tuple ts =>
        have sl : (strL S.ss).length = S.ss.length := by simp [strL]
        have rl : (S.rs.map relD).length = S.rs.length := by simp
        obtain ⟨tz, tz2⟩ := hza.len
        cases b with
        | tuple rs =>
          have goal : stB S (.tuple [.str z, .tuple ts, .tuple rs]) = (decide (ts.length = S.ss.length) && (ts.all thingB && (decide (rs.length = S.rs.length) && (rs.all isTup && (S.rs.zip rs).all fun p => ownB (kOf S.ss ts) p.1 p.2)))) := by
            show ((z == Str.ofString "store") && _) = _
            rw [hw]
            rfl
          rw [goal]
          obtain ⟨rz, rz2⟩ := hzb.len
          refine step_ok (or_b (x := false) (y := !decide (ts.length = S.ss.length) || !decide (rs.length = S.rs.length)) (nt_ok x1) fun _ => or_b (x := !decide (ts.length = S.ss.length)) (y := !decide (rs.length = S.rs.length)) (by rw [← sl]; exact mNeLen x1 s1) fun _ => or_b (x := false) (y := !decide (rs.length = S.rs.length)) (nt_ok x2) fun _ => (by rw [← rl]; exact mNeLen x2 s2)) (fun q => ?_) fun q => ?_
          · cases h5 : decide (ts.length = S.ss.length) with
            | false => rfl
            | true =>
              rw [h5] at q
              have : decide (rs.length = S.rs.length) = false := by simpa using q
              rw [this]
              simp
          have q1 : ts.length = S.ss.length := by
            cases h5 : decide (ts.length = S.ss.length) with
            | false => rw [h5] at q; simp at q
            | true => exact of_decide_eq_true h5
          have q3 : rs.length = S.rs.length := by
            cases h5 : decide (rs.length = S.rs.length) with
            | false => rw [h5] at q; simp at q
            | true => exact of_decide_eq_true h5
          rw [decide_eq_true q1, decide_eq_true q3, Bool.true_and, Bool.true_and]
          refine for_ok (e := id) (l := ts) (p := thingB) (I := fun E => ∃ y2, E = [some (.d sc), some (.d (.tuple [.str z, .tuple ts, .tuple rs])), y2, none, none, none, none, none, none, none]) (by rw [List.map_id]; exact mItT x1) ⟨none, rfl⟩ ?_ (fun q => by rw [q]; rfl) ?_
          · rintro t ht E ⟨y2, rfl⟩
            refine ⟨[some (.d sc), some (.d (.tuple [.str z, .tuple ts, .tuple rs])), some (.d t), none, none, none, none, none, none, none], rfl, ?_⟩
            obtain ⟨k1, k2⟩ := body_ok (thing_test (t := t) (E := [some (.d sc), some (.d (.tuple [.str z, .tuple ts, .tuple rs])), some (.d t), none, none, none, none, none, none, none]) (G := G) (i := 2) (j := 8) (fun ds e => ⟨((tz2 t ht) ds e).1, fun _ _ => trivial⟩) rfl (by simp))
            exact ⟨fun hk => let ⟨E2, w1, w2⟩ := k1 hk; ⟨E2, w1, _, w2⟩, k2⟩
          rintro q2 E ⟨y2, rfl⟩
          rw [q2, Bool.true_and]
          have kn := kn2_of h q1 q2 fun t ht => fun ds e => ⟨((tz2 t ht) ds e).1, fun _ _ => trivial⟩
          generalize hT : kOf S.ss ts = T at *
          have dz : (mCallB dictZipF (mCons (mOp ixD (mBor 0) (Rd.ok (.int 1))) (mCons (mOp ixD (mBor 1) (Rd.ok (.int 1))) mNil))) [some (.d sc), some (.d (.tuple [.str z, .tuple ts, .tuple rs])), y2, none, none, none, none, none, none, none] G = some (.ok (.dict (kvL kS (fun s => .tuple (lotI.ens (T s))) S.ss)), G) := by
            refine mCallB_ok (ds := [.tuple (strL S.ss), .tuple ts]) (G1 := G) (mCons_ok (mOp_ok (a := sc) (b := .int 1) (G1 := G) rfl rfl c1) (mCons_ok (d := .tuple ts) (G1 := G) rfl mNil_ok)) ?_
            show (keysK (strL S.ss)).map _ = _
            rw [keysK_strs, Option.map_some]
            have e1 := kn.eq
            rw [hT] at e1
            rw [e1]
            exact congrArg some (congrArg PyData.dict (merge_zip id (fun s => .tuple (lotI.ens (T s))) (nd_kS l3)))
          generalize hkd : PyData.dict (kvL kS (fun s => .tuple (lotI.ens (T s))) S.ss) = kdd at dz
          refine nx_ok [some (.d sc), some (.d (.tuple [.str z, .tuple ts, .tuple rs])), y2, some (.own kdd), none, none, none, none, none, none] (sSet_ok (vF_ok dz)) ?_
          have alls : (S.rs.zip rs).all (fun p => ownB T p.1 p.2) = true → rs.all isTup = true := fun q => by
            rw [List.all_eq_true] at q ⊢
            intro x hx
            have e1 : (S.rs.zip rs).map Prod.snd = rs := List.map_snd_zip (by omega)
            rw [← e1] at hx
            obtain ⟨p, hp, rfl⟩ := List.mem_map.mp hx
            have := q p hp
            generalize p.2 = o at this ⊢
            cases o with
            | tuple _ => rfl
            | _ => cases this
          refine for_ok (e := fun p : Rl × PyData => .tuple [relD p.1, p.2]) (l := S.rs.zip rs) (p := fun p => ownB T p.1 p.2)
            (I := fun E => ∃ x4 x5 x6 x7, E = [some (.d sc), some (.d (.tuple [.str z, .tuple ts, .tuple rs])), y2, some (.own kdd), x4, x5, x6, x7, none, none])
            (by rw [mZip_ok (ds := S.rs.map relD) (es := rs) (G1 := G) (mOp_ok (a := sc) (b := .int 2) (G1 := G) rfl rfl c2) (mOp_ok (a := .tuple [.str z, .tuple ts, .tuple rs]) (b := .int 2) (G1 := G) rfl rfl ix2), zipD_gen]) ⟨none, none, none, none, rfl⟩ ?_ (fun q => by rw [q, Bool.and_false]) (fun q E' _ => by rw [q, alls q]; rfl)
          rintro ⟨r, own⟩ hb E ⟨x4, x5, x6, x7, rfl⟩
          have hm := List.of_mem_zip hb
          refine ⟨[some (.d sc), some (.d (.tuple [.str z, .tuple ts, .tuple rs])), y2, some (.own kdd), some (.d (.str r.1)), some (.d (.tuple (strL r.2))), some (.d own), x7, none, none], rfl, ?_⟩
          have b6 : mBor 6 [some (.d sc), some (.d (.tuple [.str z, .tuple ts, .tuple rs])), y2, some (.own kdd), some (.d (.str r.1)), some (.d (.tuple (strL r.2))), some (.d own), x7, none, none] G = some (.ok own, G) := rfl
          cases own with
          | tuple es =>
            obtain ⟨p1, p2, p3⟩ := h.pl hm.1
            obtain ⟨ez, ez2⟩ := (rz2 _ hm.2).len
            have inner := forRun_chk (e := id) (f := tgN 7) (p := rowB T r) (G := G) (l := es) (mb := (sIf (mOr (mNot (mT (mCallZ f_law_are_numbers (aD (mVar 7) aNil)))) (mOr (mT (mOp neD (mCallB lenF (mCons (mBor 7) mNil)) (mCallB lenF (mCons (mBor 5) mNil)))) (mT (mOp neD (mLc (mZip (mBor 5) (mBor 7)) (tgT 2 (tgCons (tgN 9) (tgCons (tgN 8) tgNil))) (mT (mOp ninD (mBor 8) (mOp ixD (mBor 3) (mBor 9)))) (Rd.ok (.int 1)) [9, 8]) (mLst mNil))))) (sRet (Rd.ok (.bool false))) sNx))
              (I := fun E => ∃ x7, E = [some (.d sc), some (.d (.tuple [.str z, .tuple ts, .tuple rs])), y2, some (.own kdd), some (.d (.str r.1)), some (.d (.tuple (strL r.2))), some (.d (.tuple es)), x7, none, none]) (by
                rintro e he E ⟨x7, rfl⟩
                refine ⟨[some (.d sc), some (.d (.tuple [.str z, .tuple ts, .tuple rs])), y2, some (.own kdd), some (.d (.str r.1)), some (.d (.tuple (strL r.2))), some (.d (.tuple es)), some (.d e), none, none], rfl, ?_⟩
                have tst := rowl_test l3 (T := T) (r := r) p1 (by omega) (d := e) (fun ds ed => by have := (ez2 e he) ds ed; omega) (x0 := some (.d sc)) (x1 := some (.d (.tuple [.str z, .tuple ts, .tuple rs]))) (x2 := y2) (x4 := some (.d (.str r.1))) (x6 := some (.d (.tuple es))) (G := G)
                rw [hkd] at tst
                obtain ⟨k1, k2⟩ := body_ok tst
                exact ⟨fun hk => let ⟨E2, w1, w2⟩ := k1 hk; ⟨E2, w1, _, w2⟩, k2⟩) [some (.d sc), some (.d (.tuple [.str z, .tuple ts, .tuple rs])), y2, some (.own kdd), some (.d (.str r.1)), some (.d (.tuple (strL r.2))), some (.d (.tuple es)), x7, none, none] ⟨x7, rfl⟩
            have it6 : mIt (mVar 6) [some (.d sc), some (.d (.tuple [.str z, .tuple ts, .tuple rs])), y2, some (.own kdd), some (.d (.str r.1)), some (.d (.tuple (strL r.2))), some (.d (.tuple es)), x7, none, none] G = some (.ok (es.map id), G) := by rw [List.map_id]; exact mItT rfl
            have hfst : (mNot (mT (mIsi isTup (mBor 6)))) [some (.d sc), some (.d (.tuple [.str z, .tuple ts, .tuple rs])), y2, some (.own kdd), some (.d (.str r.1)), some (.d (.tuple (strL r.2))), some (.d (.tuple es)), x7, none, none] G = some (.ok false, G) := nt_ok b6
            obtain ⟨i1, i2⟩ := inner
            cases hall : es.all (rowB T r) with
            | false =>
              refine ⟨fun hk => ?_, fun _ => ?_⟩
              · have : (es.all (rowB T r) && chB HT.lexLt (es.map nums)) = true := hk
                rw [hall] at this
                cases this
              · exact chk_ok hfst (sSeq_ret ((sFor_ok it6).trans (i2 hall)))
            | true =>
              obtain ⟨E', w1, x7', rfl⟩ := i1 hall
              obtain ⟨o1, o2⟩ := own_rows hall
              have he : ∀ x ∈ es.map nums, (lotR r.2.length p2).el x := fun x hx => o2 x hx
              have hl : (es.map nums).length ≤ 1000 := by rw [List.length_map]; omega
              have eo : (PyData.tuple es) = .tuple ((lotR r.2.length p2).ens (es.map nums)) := by rw [ens_tupI]; exact congrArg _ o1
              have sdr := sd_R p2 (by omega) he (by omega)
              have fn : (fun k => PyData.tuple [tupI k, .int 1]) = fun k => .tuple [(lotR r.2.length p2).en k, .int 1] := by funext k; rw [show (lotR r.2.length p2).en k = tupI k from tupI_key k]
              rw [fn] at sdr
              have tst := srt_test (lotR r.2.length p2) (l := es.map nums) hl sdr (E := [some (.d sc), some (.d (.tuple [.str z, .tuple ts, .tuple rs])), y2, some (.own kdd), some (.d (.str r.1)), some (.d (.tuple (strL r.2))), some (.d (.tuple es)), x7', none, none]) (G := G) (i := 6) (j := 7) (by rw [← eo]; rfl) (by simp)
              rw [← riseR_iff p2 he] at tst
              have ob : ownB T r (.tuple es) = chB HT.lexLt (es.map nums) := by
                show (es.all (rowB T r) && chB HT.lexLt (es.map nums)) = _
                rw [hall, Bool.true_and]
              obtain ⟨k1, k2⟩ := body_ok tst
              show (ownB T r (.tuple es) = true → _) ∧ (ownB T r (.tuple es) = false → _)
              rw [ob]
              refine ⟨fun hk => ?_, fun hk => ?_⟩
              · obtain ⟨E2, v1, v2⟩ := k1 hk
                exact ⟨E2, chk_ok hfst ((sSeq_nx ((sFor_ok it6).trans w1)).trans v1), _, _, _, _, v2⟩
              · exact chk_ok hfst ((sSeq_nx ((sFor_ok it6).trans w1)).trans (k2 hk))
          | _ =>
            refine ⟨fun hk => ?_, fun _ => ?_⟩
            · cases hk
            · exact sSeq_ret ((sIf_true (nt_ok b6)).trans rfl)
        | _ => exact step_ok (k := true) (or_b (x := false) (y := true) (nt_ok x1) fun _ => by
            cases h5 : decide (ts.length = S.ss.length) with
            | false => exact mOr_true (by have := mNeLen x1 s1; rw [sl, h5] at this; exact this)
            | true => exact or_f (by have := mNeLen x1 s1; rw [sl, h5] at this; exact this) (or_b (x := true) (y := false) (nt_ok x2) fun q => by cases q)) (fun _ => rfl) fun q => by cases q
      | _ => exact step_ok (k := true) (or_b (x := true) (y := false) (nt_ok x1) fun q => by cases q) (fun _ => rfl) fun q => by cases q
    | _ => exact step_ok (head false fun q => by cases q) (fun _ => rfl) fun q => by cases q
  | _ => exact step_ok (k := true) (or_b (x := true) (y := false) (nt_ok b1) fun q => by cases q) (fun _ => rfl) fun q => by cases q
end Zd

set_option maxRecDepth 100000
set_option maxHeartbeats 4000000
namespace Zd
open PySem PySem.Spec L2
open PyProof.Rows hiding St

/-! ### k59: what lies near -/
theorem dr59 : DrawOk f_law_draw := draw_ok 2147483629 2147483587 2147483579 2147483563 (by decide) (by decide) (by decide) (by decide)
theorem draw_at {F : Fd} (dr : DrawOk F) {E : Evn} {G : Rng} {n : Nat} {m : Rd PyData} {room : Int} {i : Nat} (h1 : E[i]? = some (some .st)) (hm : m E G = some (.ok (.int room), G)) (hG : Rok n G) (hn : n < 2 ^ 38) (h0 : 0 < room) (h2 : room < 1073741824) :
    ∃ v G', mCallZ F (aSt i (aD m aNil)) E G = some (.ok (.int v), G') ∧ 0 ≤ v ∧ v < room ∧ Rok (n + 1) G' := by
  obtain ⟨v, G', h3, h4, h5, h6⟩ := dr G n room hG hn h0 h2
  exact ⟨v, G', mCallZ_ok (aSt_ok h1 (aD_ok hm aNil_ok)) h3, h4, h5, h6⟩
theorem pick_ok {sq : PyData} {ds : List PyData} (hs : sq = .list ds ∨ sq = .tuple ds) (h0 : 0 < ds.length) (hz : ds.length < 1000) {G : Rng} {n : Nat} (hG : Rok n G) (hn : n < 2 ^ 37) : ∃ d G', d ∈ ds ∧ f_law_pick [.st, .d sq] G = some (.ret d, G') ∧ Rok (n + 1) G' := by
  have a1 : argE 2 [.st, .d sq] = [some .st, some (.d sq)] := rfl
  have hl : lenF [sq] = some (.int (ds.length : Int)) := by rcases hs with rfl | rfl <;> rfl
  have b1 : mBor 1 [some .st, some (.d sq)] G = some (.ok sq, G) := rfl
  obtain ⟨v, G1, e1, p1, p2, k1⟩ := draw_at dr59 (E := [some .st, some (.d sq)]) (i := 0) (m := mCallB lenF (mCons (mBor 1) mNil)) (room := (ds.length : Int)) rfl (mCall1_ok b1 hl) hG (by omega) (by omega) (by omega)
  have hv : v.toNat < ds.length := by omega
  refine ⟨ds[v.toNat], G1, List.getElem_mem hv, fnD_ret ?_, k1⟩
  rw [a1]
  have q := atI_nat (List.getElem?_eq_getElem hv)
  rw [show ((v.toNat : Nat) : Int) = v by omega] at q
  refine sRet_ok (mOp_ok (a := sq) (b := .int v) (G1 := G) b1 e1 ?_)
  rcases hs with rfl | rfl <;> exact q
inductive Sh : Nat → PyData → Prop
  | int {k : Nat} {n : Int} : Sh k (.int n)
  | store {k : Nat} : Sh k (.str (Str.ofString "store"))
  | tup {k : Nat} {ds : List PyData} : ds.length ≤ 25 → (∀ d ∈ ds, Sh k d) → Sh (k + 1) (.tuple ds)
theorem can_all : ∀ {ds : List PyData} {k : Nat}, (∀ d ∈ ds, d.canLay0 = true ∧ d.depth ≤ k) → PyData.canLayAll0 ds = true ∧ PyData.depthAll ds ≤ k
  | [], _, _ => by simp [PyData.canLayAll0, PyData.depthAll]
  | d :: ds, k, h => by
    obtain ⟨h1, h2⟩ := can_all fun e he => h e (List.mem_cons_of_mem _ he)
    have h3 := h d List.mem_cons_self
    simp only [PyData.canLayAll0, PyData.depthAll, h3.1, h1, Bool.and_self, true_and]
    omega
theorem Sh.can : ∀ {k : Nat} {d : PyData}, Sh k d → d.canLay0 = true ∧ d.depth ≤ k + 1
  | _, _, .int => by simp [PyData.canLay0, PyData.depth]
  | _, _, .store => ⟨by decide +kernel, by simp [PyData.depth]⟩
  | _, _, .tup _ h => by
    have := can_all fun d hd => (h d hd).can
    simp only [PyData.canLay0, PyData.depth]
    exact ⟨this.1, by omega⟩
theorem Sh.shp {k : Nat} {d : PyData} (h : Sh k d) (hk : k ≤ 60) : SeqAt.shaped d = true := by
  have := h.can
  simp [SeqAt.shaped, this.1]
  omega
theorem lim_nt {k : Nat} {d : PyData} (h : isTup d = false) : Lim k d := by
  cases k with
  | zero => trivial
  | succ k => intro ds e; rw [e] at h; cases h
theorem lim_tup {k : Nat} {ds : List PyData} (h1 : ds.length ≤ 60) (h2 : ∀ d ∈ ds, Lim k d) : Lim (k + 1) (.tuple ds) := by
  intro es e
  cases e
  exact ⟨h1, h2⟩
theorem Sh.lim : ∀ {k : Nat} {d : PyData}, Sh k d → Lim k d
  | _, _, .int => lim_nt rfl
  | _, _, .store => lim_nt rfl
  | _, _, .tup h1 h2 => lim_tup (by omega) fun d hd => (h2 d hd).lim
theorem lim_one {k : Nat} {d : PyData} (h : isTup d = false) : Lim k (.tuple [d]) := by
  cases k with
  | zero => trivial
  | succ k => exact lim_tup (by simp) fun e he => by rw [List.mem_singleton.mp he]; exact lim_nt h
theorem lim_nil {k : Nat} : Lim k (.tuple []) := by
  cases k with
  | zero => trivial
  | succ k => exact lim_tup (by simp) fun e he => by cases he
theorem mSl_ok {m : Rd PyData} {d e : PyData} {lo hi : Option (Rd PyData)} {l h : Option Int} {E : Evn} {G : Rng} (h1 : m E G = some (.ok d, G)) (h2 : mPart lo E G = some (.ok l, G)) (h3 : mPart hi E G = some (.ok h, G)) (h4 : slD d l h = some e) : mSl m lo hi E G = some (.ok e, G) := by
  unfold mSl
  rw [Rd.bind_ok h1, Rd.bind_ok h2, Rd.bind_ok h3, h4]
  rfl
theorem cut_len (ds : List PyData) (lo hi : Option Int) : (cutD ds lo hi).length ≤ ds.length := by
  unfold cutD
  rw [List.length_take, List.length_drop]
  omega
theorem cut_mem {ds : List PyData} {lo hi : Option Int} {d : PyData} (h : d ∈ cutD ds lo hi) : d ∈ ds := List.mem_of_mem_drop (List.mem_of_mem_take h)
theorem addT {a b : List PyData} (h : a.length + b.length ≤ 100000) : addD (.tuple a) (.tuple b) = some (.tuple (a ++ b)) := if_pos h
theorem catL {a b : List PyData} (h : a.length + b.length ≤ 100000) : catD (.list a) (.list b) = some (.list (a ++ b)) := if_pos h
theorem isN_no {d : PyData} (h : isNone d = false) {E : Evn} {G : Rng} (hE : E[1]? = some (some (.d d))) (hb : isBool d = false) : (mOr (mT (mOp isN (mBor 1) (Rd.ok .none))) (mT (mIsi isBool (mBor 1)))) E G = some (.ok false, G) := by
  have b1 : mBor 1 E G = some (.ok d, G) := by unfold mBor; rw [hE]
  refine or_f (mT_ok (mOp_ok b1 (b := .none) (G1 := G) rfl ?_)) ((mT_ok (mIsi_ok b1)).trans (by rw [hb]))
  show some (PyData.bool (isNone d)) = _
  rw [h]
theorem isi_t {q : PyData → Bool} {d : PyData} {E : Evn} {G : Rng} (hE : E[1]? = some (some (.d d))) : (mT (mIsi q (mBor 1))) E G = some (.ok (q d), G) := mT_ok (mIsi_ok (by unfold mBor; rw [hE]))
theorem pick_call {E : Evn} {G : Rng} {n : Nat} {m : Rd PyData} {ds : List PyData} (h1 : E[0]? = some (some .st)) (hm : m E G = some (.ok (.list ds), G)) (h0 : 0 < ds.length) (hz : ds.length < 1000) (hG : Rok n G) (hn : n < 2 ^ 37) : ∃ d G', d ∈ ds ∧ sRet (mCallZ f_law_pick (aSt 0 (aD m aNil))) E G = some (.ret d, G') ∧ Rok (n + 1) G' := by
  obtain ⟨d, G', q1, q2, q3⟩ := pick_ok (sq := .list ds) (.inl rfl) h0 hz hG hn
  exact ⟨d, G', q1, sRet_ok (mCallZ_ok (aSt_ok h1 (aD_ok hm aNil_ok)) q2), q3⟩
theorem near_int (F : Fd) (i : Int) {G : Rng} {n k : Nat} (hG : Rok n G) (hn : n < 2 ^ 37) : ∃ v' G', fnD 4 (m_law_near F) [.st, .d (.int i)] G = some (.ret v', G') ∧ Lim k v' ∧ Rok (n + 1) G' := by
  obtain ⟨d, G', q1, q2, q3⟩ := pick_call (E := [some .st, some (.d (.int i)), none, none]) (ds := [.int (i + 1), .int (i - 1), .bool true, .none, .int 1000, .tuple [.int i], .str (Str.ofString "0")])
    (m := (mLst (mCons (mOp addD (mBor 1) (Rd.ok (.int 1))) (mCons (mOp subD (mBor 1) (Rd.ok (.int 1))) (mCons (Rd.ok (.bool true)) (mCons (Rd.ok .none) (mCons (Rd.ok (.int 1000)) (mCons (mTup (mCons (mVar 1) mNil)) (mCons (Rd.ok (.str (Str.ofString "0"))) mNil))))))))) rfl rfl (by simp) (by simp) hG hn
  refine ⟨d, G', fnD_ret ?_, ?_, q3⟩
  · show m_law_near F [some .st, some (.d (.int i)), none, none] G = _
    unfold m_law_near
    refine chk_ok (isN_no (d := .int i) rfl rfl rfl) (chk_ok (isi_t (d := .int i) rfl) ?_)
    exact sSeq_ret ((sIf_true (isi_t (d := .int i) rfl)).trans q2)
  · simp only [List.mem_cons, List.not_mem_nil, or_false] at q1
    rcases q1 with rfl | rfl | rfl | rfl | rfl | rfl | rfl
    all_goals first | exact lim_nt rfl | exact lim_one rfl
theorem near_str (F : Fd) {G : Rng} {n k : Nat} (hG : Rok n G) (hn : n < 2 ^ 37) : ∃ v' G', fnD 4 (m_law_near F) [.st, .d (.str (Str.ofString "store"))] G = some (.ret v', G') ∧ Lim k v' ∧ Rok (n + 1) G' := by
  obtain ⟨d, G', q1, q2, q3⟩ := pick_call (E := [some .st, some (.d (.str (Str.ofString "store"))), none, none]) (ds := [.str (Str.ofString ""), .str (Str.ofString "storex"), .str (Str.ofString "tore"), .str (Str.ofString "zz"), .str (Str.ofString "STORE"), .none, .str (Str.ofString "yes"), .int 0, .tuple [.str (Str.ofString "store")], .str (Str.ofString "x"), .str (Str.ofString "y"), .str (Str.ofString "p"), .str (Str.ofString "q"), .str (Str.ofString "r"), .str (Str.ofString "likes")])
    (m := (mLst (mCons (Rd.ok (.str (Str.ofString ""))) (mCons (mOp addD (mBor 1) (Rd.ok (.str (Str.ofString "x")))) (mCons (mSl (mBor 1) (some (Rd.ok (.int 1))) none) (mCons (Rd.ok (.str (Str.ofString "zz"))) (mCons (mUn upD (mBor 1)) (mCons (Rd.ok .none) (mCons (Rd.ok (.str (Str.ofString "yes"))) (mCons (Rd.ok (.int 0)) (mCons (mTup (mCons (mVar 1) mNil)) (mCons (Rd.ok (.str (Str.ofString "x"))) (mCons (Rd.ok (.str (Str.ofString "y"))) (mCons (Rd.ok (.str (Str.ofString "p"))) (mCons (Rd.ok (.str (Str.ofString "q"))) (mCons (Rd.ok (.str (Str.ofString "r"))) (mCons (Rd.ok (.str (Str.ofString "likes"))) mNil))))))))))))))))) rfl (by kernel_rfl) (by simp) (by simp) hG hn
  refine ⟨d, G', fnD_ret ?_, ?_, q3⟩
  · show m_law_near F [some .st, some (.d (.str (Str.ofString "store"))), none, none] G = _
    unfold m_law_near
    refine chk_ok (isN_no (d := .str (Str.ofString "store")) rfl rfl rfl) ?_
    exact sSeq_ret ((sIf_true (isi_t (d := .str (Str.ofString "store")) rfl)).trans q2)
  · simp only [List.mem_cons, List.not_mem_nil, or_false] at q1
    rcases q1 with rfl | rfl | rfl | rfl | rfl | rfl | rfl | rfl | rfl | rfl | rfl | rfl | rfl | rfl | rfl
    all_goals first | exact lim_nt rfl | exact lim_one rfl
theorem ne_nilT {k : Nat} {ds : List PyData} (h : Sh (k + 1) (.tuple ds)) (hk : k ≤ 50) : neD (.tuple ds) (.tuple []) = some (.bool (!ds.isEmpty)) := by
  rw [ne_ok (h.shp (by omega)) (by decide +kernel)]
  cases ds <;> rfl
theorem near_ok : ∀ {k : Nat} {v : PyData}, Sh k v → k ≤ 10 → ∀ (j : Nat), k < j → ∀ {G : Rng} {n : Nat}, Rok n G → n + 4 * (k + 1) < 2 ^ 36 → ∃ v' G', r_law_near j [.st, .d v] G = some (.ret v', G') ∧ Lim k v' ∧ Rok (n + 4 * (k + 1)) G'
  | k, _, .int (n := i), hk, j + 1, hj, G, n, hG, hn => by
    obtain ⟨v', G', q1, q2, q3⟩ := near_int (r_law_near j) i (k := k) hG (by omega)
    exact ⟨v', G', q1, q2, q3.mono (by omega)⟩
  | k, _, .store, hk, j + 1, hj, G, n, hG, hn => by
    obtain ⟨v', G', q1, q2, q3⟩ := near_str (r_law_near j) (k := k) hG (by omega)
    exact ⟨v', G', q1, q2, q3.mono (by omega)⟩
  | _, _, .tup (k := k) (ds := ds) hz hd, hk, j + 1, hj, G, n, hG, hn => by
    have sh : Sh (k + 1) (.tuple ds) := .tup hz hd
    have ds25 : ∀ d ∈ ds, Lim k d := fun d hd' => (hd d hd').lim
    have pre : ∀ {r : Option (Out × Rng)} {G : Rng}, (sSeq (sIf (mAnd (mT (mIsi isTup (mBor 1))) (mAnd (mT (mOp neD (mBor 1) (mTup mNil))) (mT (mOp gtD (mCallZ f_law_draw (aSt 0 (aD (Rd.ok (.int 5)) aNil))) (Rd.ok (.int 0)))))) (sSeq (sSet 2 (vD (mCallZ f_law_draw (aSt 0 (aD (mCallB lenF (mCons (mBor 1) mNil)) aNil)))))
 (sRet (mOp addD (mOp addD (mSl (mBor 1) none (some (mBor 2))) (mTup (mCons (mCallZ (r_law_near j) (aSt 0 (aD (mOp ixD (mBor 1) (mBor 2)) aNil))) mNil))) (mSl (mBor 1) (some (mOp addD (mBor 2) (Rd.ok (.int 1)))) none)))) sNx)
 (sSeq (sSet 3 (vF (mCallB lstF (mCons (mBor 1) mNil))))
 (sFrz 3 (sRet (mCallZ f_law_pick (aSt 0 (aD (mLst (mCons (mVar 3) (mCons (mCallB tupF (mCons (mOp catD (mBor 3) (mLst (mCons (Rd.ok (.int 0)) mNil))) mNil)) (mCons (mCallB tupF (mCons (mSl (mBor 3) none (some (mUn negD (Rd.ok (.int 1))))) mNil)) (mCons (Rd.ok .none) (mCons (mCallB tupF (mCons (mOp catD (mBor 3) (mSl (mBor 3) (some (mUn negD (Rd.ok (.int 1)))) none)) mNil)) (mCons (mCallB tupF (mCons (mUn revD (mBor 3)) mNil)) (mCons (mTup mNil) mNil)))))))) aNil))))))) [some .st, some (.d (.tuple ds)), none, none] G = r → m_law_near (r_law_near j) [some .st, some (.d (.tuple ds)), none, none] G = r := fun h => by
      unfold m_law_near
      exact chk_ok (isN_no (d := .tuple ds) rfl rfl rfl) (chk_ok (isi_t (d := .tuple ds) rfl) (chk_ok (isi_t (d := .tuple ds) rfl) h))
    have els : ∀ {G : Rng} {n : Nat}, Rok n G → n < 2 ^ 37 → ∃ v' G', (sSeq (sSet 3 (vF (mCallB lstF (mCons (mBor 1) mNil))))
 (sFrz 3 (sRet (mCallZ f_law_pick (aSt 0 (aD (mLst (mCons (mVar 3) (mCons (mCallB tupF (mCons (mOp catD (mBor 3) (mLst (mCons (Rd.ok (.int 0)) mNil))) mNil)) (mCons (mCallB tupF (mCons (mSl (mBor 3) none (some (mUn negD (Rd.ok (.int 1))))) mNil)) (mCons (Rd.ok .none) (mCons (mCallB tupF (mCons (mOp catD (mBor 3) (mSl (mBor 3) (some (mUn negD (Rd.ok (.int 1)))) none)) mNil)) (mCons (mCallB tupF (mCons (mUn revD (mBor 3)) mNil)) (mCons (mTup mNil) mNil)))))))) aNil)))))) [some .st, some (.d (.tuple ds)), none, none] G = some (.ret v', G') ∧ Lim (k + 1) v' ∧ Rok (n + 1) G' := fun {G n} hG hn => by
      have b3 : mBor 3 [some .st, some (.d (.tuple ds)), none, some (.d (.list ds))] G = some (.ok (.list ds), G) := rfl
      have m1 : mPart (some (mUn negD (Rd.ok (.int 1)))) [some .st, some (.d (.tuple ds)), none, some (.d (.list ds))] G = some (.ok (some (-1)), G) := rfl
      have c1 := cut_len ds none (some (-1))
      have c2 := cut_len ds (some (-1)) none
      have e1 : (mCallB tupF (mCons (mOp catD (mBor 3) (mLst (mCons (Rd.ok (.int 0)) mNil))) mNil)) [some .st, some (.d (.tuple ds)), none, some (.d (.list ds))] G = some (.ok (.tuple (ds ++ [.int 0])), G) := mCall1_ok (mOp_ok (a := .list ds) (b := .list [.int 0]) (G1 := G) b3 rfl (catL (by simp; omega))) rfl
      have e2 : (mCallB tupF (mCons (mSl (mBor 3) none (some (mUn negD (Rd.ok (.int 1))))) mNil)) [some .st, some (.d (.tuple ds)), none, some (.d (.list ds))] G = some (.ok (.tuple (cutD ds none (some (-1)))), G) := mCall1_ok (mSl_ok (d := .list ds) b3 rfl m1 rfl) rfl
      have e3 : (mCallB tupF (mCons (mOp catD (mBor 3) (mSl (mBor 3) (some (mUn negD (Rd.ok (.int 1)))) none)) mNil)) [some .st, some (.d (.tuple ds)), none, some (.d (.list ds))] G = some (.ok (.tuple (ds ++ cutD ds (some (-1)) none)), G) := mCall1_ok (mOp_ok (a := .list ds) (b := .list (cutD ds (some (-1)) none)) (G1 := G) b3 (mSl_ok (d := .list ds) b3 m1 rfl rfl) (catL (by omega))) rfl
      have e4 : (mCallB tupF (mCons (mUn revD (mBor 3)) mNil)) [some .st, some (.d (.tuple ds)), none, some (.d (.list ds))] G = some (.ok (.tuple ds.reverse), G) := by
        refine mCall1_ok (a := .list ds.reverse) (G1 := G) ?_ rfl
        unfold mUn
        rw [Rd.bind_ok b3]
        rfl
      obtain ⟨d, G', q1, q2, q3⟩ := pick_call (E := [some .st, some (.d (.tuple ds)), none, some (.d (.list ds))]) (ds := [.list ds, .tuple (ds ++ [.int 0]), .tuple (cutD ds none (some (-1))), .none, .tuple (ds ++ cutD ds (some (-1)) none), .tuple ds.reverse, .tuple []]) rfl
        (mLst_ok (mCons_ok (m := mVar 3) (d := .list ds) (G1 := G) rfl (mCons_ok e1 (mCons_ok e2 (mCons_ok (m := Rd.ok .none) (d := .none) (G1 := G) rfl (mCons_ok e3 (mCons_ok e4 (mCons_ok (m := mTup mNil) (d := .tuple []) (G1 := G) rfl mNil_ok))))))) (by simp)) (by simp) (by simp) hG hn
      refine ⟨d, G', ?_, ?_, q3⟩
      · refine nx_ok [some .st, some (.d (.tuple ds)), none, some (.own (.list ds))] (sSet_ok (vF_ok (mCall1_ok (a := .tuple ds) (G1 := G) rfl rfl))) ?_
        rw [sFrz_own (d := .list ds) rfl]
        exact q2
      · simp only [List.mem_cons, List.not_mem_nil, or_false] at q1
        rcases q1 with rfl | rfl | rfl | rfl | rfl | rfl | rfl
        · exact lim_nt rfl
        · refine lim_tup (by simp; omega) fun d hd' => ?_
          rcases List.mem_append.mp hd' with h | h
          · exact ds25 d h
          · rw [List.mem_singleton.mp h]; exact lim_nt rfl
        · exact lim_tup (by omega) fun d hd' => ds25 d (cut_mem hd')
        · exact lim_nt rfl
        · refine lim_tup (by rw [List.length_append]; omega) fun d hd' => ?_
          rcases List.mem_append.mp hd' with h | h
          · exact ds25 d h
          · exact ds25 d (cut_mem h)
        · exact lim_tup (by rw [List.length_reverse]; omega) fun d hd' => ds25 d (List.mem_reverse.mp hd')
        · exact lim_nil
    have t1 : ∀ G : Rng, (mT (mIsi isTup (mBor 1))) [some .st, some (.d (.tuple ds)), none, none] G = some (.ok true, G) := fun G => isi_t (d := .tuple ds) rfl
    have t2 : ∀ G : Rng, (mT (mOp neD (mBor 1) (mTup mNil))) [some .st, some (.d (.tuple ds)), none, none] G = some (.ok (!ds.isEmpty), G) := fun G => mT_ok (mOp_ok (a := .tuple ds) (b := .tuple []) (G1 := G) rfl rfl (ne_nilT sh (by omega)))
    show ∃ v' G', fnD 4 (m_law_near (r_law_near j)) [.st, .d (.tuple ds)] G = some (.ret v', G') ∧ Lim (k + 1) v' ∧ Rok (n + 4 * (k + 1 + 1)) G'
    by_cases h0 : ds = []
    · have t2' := t2 G
      obtain ⟨v', G', q1, q2, q3⟩ := els hG (by omega)
      refine ⟨v', G', fnD_ret (pre ?_), q2, q3.mono (by omega)⟩
      refine (sSeq_nx ((sIf_false (mAnd_true (t1 G) (mAnd_false ?_))).trans rfl)).trans q1
      rw [t2', h0]
      rfl
    · have hp : 0 < ds.length := List.length_pos_iff.mpr h0
      have ne : (!ds.isEmpty) = true := by cases ds with | nil => exact absurd rfl h0 | cons _ _ => rfl
      obtain ⟨x, G1, x1, x2, x3, x4⟩ := draw_at dr59 (E := [some .st, some (.d (.tuple ds)), none, none]) (i := 0) (m := Rd.ok (.int 5)) (room := 5) rfl rfl hG (by omega) (by omega) (by omega)
      have t3 : (mT (mOp gtD (mCallZ f_law_draw (aSt 0 (aD (Rd.ok (.int 5)) aNil))) (Rd.ok (.int 0)))) [some .st, some (.d (.tuple ds)), none, none] G = some (.ok (decide (0 < x)), G1) := mT_ok (mOp_ok x1 (b := .int 0) (G2 := G1) rfl rfl)
      have cond : (mAnd (mT (mIsi isTup (mBor 1))) (mAnd (mT (mOp neD (mBor 1) (mTup mNil))) (mT (mOp gtD (mCallZ f_law_draw (aSt 0 (aD (Rd.ok (.int 5)) aNil))) (Rd.ok (.int 0)))))) [some .st, some (.d (.tuple ds)), none, none] G = some (.ok (decide (0 < x)), G1) := mAnd_true (t1 G) (mAnd_true (by rw [t2 G, ne]) t3)
      cases hx : decide (0 < x) with
      | false =>
        rw [hx] at cond
        obtain ⟨v', G', q1, q2, q3⟩ := els x4 (by omega)
        exact ⟨v', G', fnD_ret (pre ((sSeq_nx ((sIf_false cond).trans rfl)).trans q1)), q2, q3.mono (by omega)⟩
      | true =>
        rw [hx] at cond
        obtain ⟨a, G2, a1, a2, a3, a4⟩ := draw_at dr59 (E := [some .st, some (.d (.tuple ds)), none, none]) (i := 0) (m := mCallB lenF (mCons (mBor 1) mNil)) (room := (ds.length : Int)) rfl rfl x4 (by omega) (by omega) (by omega)
        have ha : a.toNat < ds.length := by omega
        obtain ⟨w, G3, w1, w2, w3⟩ := near_ok (hd ds[a.toNat] (List.getElem_mem ha)) (by omega) j (by omega) a4 (by omega)
        have c1 := cut_len ds none (some a)
        have c2 := cut_len ds (some (a + 1)) none
        have i1 : (mOp ixD (mBor 1) (mBor 2)) [some .st, some (.d (.tuple ds)), some (.d (.int a)), none] G2 = some (.ok ds[a.toNat], G2) := by
          refine mOp_ok (a := .tuple ds) (b := .int a) (G1 := G2) rfl rfl ?_
          have q := atI_nat (List.getElem?_eq_getElem ha)
          rw [show ((a.toNat : Nat) : Int) = a by omega] at q
          exact q
        refine ⟨.tuple ((cutD ds none (some a) ++ [w]) ++ cutD ds (some (a + 1)) none), G3, fnD_ret (pre (sSeq_ret ((sIf_true cond).trans ?_))), lim_tup (by simp only [List.length_append, List.length_cons, List.length_nil]; omega) fun d hd' => ?_, w3.mono (by omega)⟩
        · refine (sSeq_nx (E1 := [some .st, some (.d (.tuple ds)), some (.d (.int a)), none]) (sSet_ok (vD_ok a1))).trans ?_
          refine sRet_ok (mOp_ok (a := .tuple (cutD ds none (some a) ++ [w])) (G1 := G3) (mOp_ok (a := .tuple (cutD ds none (some a))) (b := .tuple [w]) (G1 := G2) (mSl_ok (d := .tuple ds) (l := none) (h := some a) rfl rfl rfl rfl) (mTup_ok (mCons_ok (mCallZ_ok (aSt_ok rfl (aD_ok i1 aNil_ok)) w1) mNil_ok) (by simp)) (addT (by simp; omega))) (mSl_ok (d := .tuple ds) (l := some (a + 1)) (h := none) rfl rfl rfl rfl) (addT (by simp only [List.length_append, List.length_cons, List.length_nil]; omega)))
        · rcases List.mem_append.mp hd' with h | h
          · rcases List.mem_append.mp h with h | h
            · exact ds25 d (cut_mem h)
            · rw [List.mem_singleton.mp h]; exact w2
          · exact ds25 d (cut_mem h)
end Zd

set_option maxRecDepth 100000
set_option maxHeartbeats 4000000
namespace Zd
open PySem PySem.Spec L2
open PyProof.Rows hiding St

/-! ### k59: what is drawn -/
section
variable {β : Type} {e : β → PyData} {f : Tg} {E : Evn}
theorem lcRun_draw {tt : Rd Bool} {te : Rd PyData} (h : β → PyData) : ∀ {l : List β}, (∀ b ∈ l, ∃ E1, f (e b) E = some E1 ∧ ∀ G n, Rok n G → n < 2 ^ 37 → ∃ k G', tt E1 G = some (.ok k, G') ∧ Rok (n + 1) G' ∧ te E1 G' = some (.ok (h b), G')) →
    ∀ {G : Rng} {n : Nat}, Rok n G → n + l.length < 2 ^ 37 → ∃ (l' : List β) (G' : Rng), l'.Sublist l ∧ lcRun f tt te E (l.map e) G = some (l'.map h, G') ∧ Rok (n + l.length) G'
  | [], _, G, n, hG, _ => ⟨[], G, .slnil, rfl, hG⟩
  | b :: l, hf, G, n, hG, hn => by
    rw [List.length_cons] at hn
    obtain ⟨E1, h1, h2⟩ := hf b List.mem_cons_self
    obtain ⟨k, G1, e1, k1, e2⟩ := h2 G n hG (by omega)
    obtain ⟨l', G', s, r, k2⟩ := lcRun_draw h (l := l) (fun c hc => hf c (List.mem_cons_of_mem _ hc)) k1 (by omega)
    rw [List.map_cons]
    cases k with
    | true => exact ⟨b :: l', G', s.cons_cons b, lcRun_true h1 e1 e2 r, k2.mono (by rw [List.length_cons]; omega)⟩
    | false => exact ⟨l', G', s.cons b, lcRun_false h1 e1 r, k2.mono (by rw [List.length_cons]; omega)⟩
theorem lcRun_fn {γ : Type} [DecidableEq β] [Inhabited γ] {te : Rd PyData} (P : β → γ → Prop) (h : β → γ → PyData) (c : Nat) : ∀ {l : List β}, l.Nodup → (∀ b ∈ l, ∃ E1, f (e b) E = some E1 ∧ ∀ G n, Rok n G → n + c < 2 ^ 37 → ∃ y G', te E1 G = some (.ok (h b y), G') ∧ P b y ∧ Rok (n + c) G') →
    ∀ {G : Rng} {n : Nat}, Rok n G → n + c * l.length < 2 ^ 37 → ∃ (K : β → γ) (G' : Rng), (∀ b ∈ l, P b (K b)) ∧ lcRun f mYes te E (l.map e) G = some (l.map fun b => h b (K b), G') ∧ Rok (n + c * l.length) G'
  | [], _, _, G, n, hG, _ => ⟨fun _ => default, G, (fun b hb => by cases hb), rfl, hG⟩
  | b :: l, nd, hf, G, n, hG, hn => by
    rw [List.length_cons, Nat.mul_add, Nat.mul_one] at hn
    rw [List.nodup_cons] at nd
    obtain ⟨E1, h1, h2⟩ := hf b List.mem_cons_self
    obtain ⟨y, G1, e1, p1, k1⟩ := h2 G n hG (by omega)
    obtain ⟨K, G', pk, r, k2⟩ := lcRun_fn P h c (l := l) nd.2 (fun c hc => hf c (List.mem_cons_of_mem _ hc)) k1 (by omega)
    have ne : ∀ a ∈ l, a ≠ b := fun a ha z => nd.1 (z ▸ ha)
    refine ⟨fun a => if a = b then y else K a, G', fun a ha => ?_, ?_, k2.mono (by rw [List.length_cons, Nat.mul_add]; omega)⟩
    · rcases List.mem_cons.mp ha with rfl | ha
      · simpa using p1
      · simpa [ne a ha] using pk a ha
    · rw [List.map_cons, List.map_cons]
      have q : (l.map fun a => h a (if a = b then y else K a)) = l.map fun a => h a (K a) := List.map_congr_left fun a ha => by rw [if_neg (ne a ha)]
      rw [q]
      show lcRun f mYes te E (e b :: List.map e l) G = some (h b (if b = b then y else K b) :: _, G')
      rw [if_pos rfl]
      exact lcRun_true h1 rfl e1 r
end
/-- x is one of the tuples of the lots -/
def Of (ls : List (List Int)) (x : List Int) : Prop := x.length = ls.length ∧ ∀ (i : Nat) (y : Int) (l : List Int), x[i]? = some y → ls[i]? = some l → y ∈ l
theorem Of.snoc {ls : List (List Int)} {x l : List Int} {y : Int} (h : Of ls x) (hy : y ∈ l) : Of (ls ++ [l]) (x ++ [y]) := by
  refine ⟨by simp [h.1], fun i z m h1 h2 => ?_⟩
  by_cases hi : i < x.length
  · rw [List.getElem?_append_left hi] at h1
    rw [List.getElem?_append_left (by rw [← h.1]; exact hi)] at h2
    exact h.2 i z m h1 h2
  · rw [List.getElem?_append_right (by omega)] at h1
    rw [List.getElem?_append_right (by rw [← h.1]; omega)] at h2
    have hj : i - x.length = 0 := by
      have := (List.getElem?_eq_some_iff.mp h1).1
      simp at this
      omega
    rw [hj] at h1
    rw [← h.1, hj] at h2
    cases h1
    cases h2
    exact hy
theorem pow5 {a b : Nat} (h : a ≤ b) (hb : b ≤ 2) : 5 ^ a ≤ 25 := by
  have : a = 0 ∨ a = 1 ∨ a = 2 := by omega
  rcases this with rfl | rfl | rfl <;> decide
theorem lots_ok {ls : List (List Int)} (h2 : ls.length ≤ 2) (h5 : ∀ l ∈ ls, l.length ≤ 5) (G : Rng) : ∃ F : List (List Int), f_law_tuples [.d (.list (ls.map fun l => .list (lotI.ens l)))] G = some (.ret (.list (F.map tupI)), G) ∧ F.length ≤ 25 ∧ ∀ x ∈ F, Of ls x := by
  have a1 : argE 6 [.d (.list (ls.map fun l => .list (lotI.ens l)))] = [some (.d (.list (ls.map fun l => .list (lotI.ens l)))), none, none, none, none, none] := rfl
  generalize hL : PyData.list (ls.map fun l => .list (lotI.ens l)) = ld at a1
  have key := forRun_map (f := tgN 2) (e := fun l => .list (lotI.ens l)) (mb := (sSeq (sSet 3 (vF (mLst mNil)))
 (sSeq (sFrz 1 (sFor (mIt (mVar 1)) (tgN 4) (sSet 3 (vF (mOp catD (mBor 3) (mLc (mIt (mBor 2)) (tgN 5) mYes (mOp addD (mBor 4) (mTup (mCons (mVar 5) mNil))) [5]))))))
 (sFrz 3 (sSet 1 (vD (mVar 3)))))))
    (fun done E G' => G' = G ∧ ∃ (F : List (List Int)) (c1 : EV) (c2 c3 c4 : Option EV), E = [some (.d ld), some c1, c2, c3, c4, none] ∧ (c1 = .own (.list (F.map tupI)) ∨ c1 = .d (.list (F.map tupI))) ∧ F.length ≤ 5 ^ done.length ∧ ∀ x ∈ F, Of done x)
    (l := ls) (done := []) (E := [some (.d ld), some (.own (.list ([[]].map tupI))), none, none, none, none]) (G := G) ⟨rfl, [[]], _, none, none, none, rfl, .inl rfl, by decide, fun x hx => by
      rw [List.mem_singleton.mp hx]
      exact ⟨rfl, fun i y l h => by simp at h⟩⟩ ?_
  · obtain ⟨E', G', w1, w2, F, c1, c2, c3, c4, rfl, hc, hl, hF⟩ := key
    subst w2
    rw [List.nil_append] at hl hF
    refine ⟨F, fnD_ret ?_, Nat.le_trans hl (pow5 h2 (Nat.le_refl 2)), hF⟩
    rw [a1]
    unfold m_law_tuples
    rw [sSeq_nx (E1 := [some (.d ld), some (.own (.list ([[]].map tupI))), none, none, none, none]) (G1 := G') rfl]
    rw [sSeq_nx ((sFor_ok (mItL (by rw [hL]; rfl))).trans w1)]
    rcases hc with rfl | rfl
    · rw [sFrz_own rfl]; rfl
    · rw [sFrz_d rfl]; rfl
  · rintro pre l post hp E G2 ⟨rfl, F, c1, c2, c3, c4, rfl, hc, hl, hF⟩
    rw [List.nil_append] at hp
    have hm : l ∈ ls := by rw [hp]; simp
    have l5 := h5 l hm
    have pz : pre.length + 1 ≤ ls.length := by
      have := congrArg List.length hp
      rw [List.length_append, List.length_cons] at this
      omega
    have f5 : F.length ≤ 5 := by
      have : pre.length = 0 ∨ pre.length = 1 := by omega
      rcases this with q | q <;> rw [q] at hl <;> omega
    have inner := forRun_map (f := tgN 4) (e := tupI) (mb := (sSet 3 (vF (mOp catD (mBor 3) (mLc (mIt (mBor 2)) (tgN 5) mYes (mOp addD (mBor 4) (mTup (mCons (mVar 5) mNil))) [5])))))
      (fun done E G' => G' = G2 ∧ ∃ c4, E = [some (.d ld), some (.d (.list (F.map tupI))), some (.d (.list (lotI.ens l))), some (.own (.list ((done.flatMap fun x => l.map fun y => x ++ [y]).map tupI))), c4, none])
      (l := F) (done := []) (E := [some (.d ld), some (.d (.list (F.map tupI))), some (.d (.list (lotI.ens l))), some (.own (.list [])), c4, none]) (G := G2) ⟨rfl, c4, rfl⟩ ?_
    · obtain ⟨E', G', w1, w2, c4', rfl⟩ := inner
      subst w2
      have hlen : (F.flatMap fun x => l.map fun y => x ++ [y]).length ≤ F.length * 5 := by
        rw [List.length_flatMap]
        have : ∀ F : List (List Int), (F.map fun x => (l.map fun y => x ++ [y]).length).sum ≤ F.length * 5 := fun F => by
          induction F with
          | nil => simp
          | cons x F ih =>
            simp only [List.map_cons, List.sum_cons, List.length_map, List.length_cons] at ih ⊢
            omega
        exact this F
      refine ⟨[some (.d ld), some c1, some (.d (.list (lotI.ens l))), c3, c4, none], _, G', rfl, (sSeq_nx (E1 := [some (.d ld), some c1, some (.d (.list (lotI.ens l))), some (.own (.list [])), c4, none]) (G1 := G') rfl).trans ((sSeq_nx (E1 := [some (.d ld), some (.d (.list (F.map tupI))), some (.d (.list (lotI.ens l))), some (.own (.list ((F.flatMap fun x => l.map fun y => x ++ [y]).map tupI))), c4', none]) (G1 := G') ?_).trans ((sFrz_own rfl).trans rfl)), rfl, F.flatMap fun x => l.map fun y => x ++ [y], _, _, _, _, rfl, .inr rfl, ?_, fun z hz => ?_⟩
      · rcases hc with rfl | rfl
        · rw [sFrz_own rfl]
          exact (sFor_ok (mItL rfl)).trans w1
        · rw [sFrz_d rfl]
          exact (sFor_ok (mItL rfl)).trans w1
      · rw [List.length_append, List.length_cons, List.length_nil, Nat.pow_succ]
        omega
      · obtain ⟨x, hx, hz⟩ := List.mem_flatMap.mp hz
        obtain ⟨y, hy, rfl⟩ := List.mem_map.mp hz
        exact (hF x hx).snoc hy
    · rintro pre' x post' hp' E G3 ⟨rfl, c4', rfl⟩
      rw [List.nil_append] at hp'
      have hx : x ∈ F := by rw [hp']; simp
      have xl := (hF x hx).1
      have pl : pre'.length ≤ 5 := by
        have := congrArg List.length hp'
        rw [List.length_append, List.length_cons] at this
        omega
      have hlen : (pre'.flatMap fun x => l.map fun y => x ++ [y]).length ≤ pre'.length * 5 := by
        rw [List.length_flatMap]
        have : ∀ F : List (List Int), (F.map fun x => (l.map fun y => x ++ [y]).length).sum ≤ F.length * 5 := fun F => by
          induction F with
          | nil => simp
          | cons x F ih =>
            simp only [List.map_cons, List.sum_cons, List.length_map, List.length_cons] at ih ⊢
            omega
        exact this pre'
      refine ⟨_, _, G3, rfl, sSet_ok (vF_ok (mOp_ok (a := .list ((pre'.flatMap fun x => l.map fun y => x ++ [y]).map tupI)) (b := .list ((l.map fun y => x ++ [y]).map tupI)) (G1 := G3) rfl (mLc_ok (ds := lotI.ens l) (G1 := G3) (mItL rfl) (by rw [ens_len]; omega) ?_) (catD_ok (by rw [List.length_map, List.length_map, List.length_map]; omega)))), rfl, some (.d (tupI x)), ?_⟩
      · rw [List.map_map]
        refine lcRun_all (e := lotI.en) (tupI ∘ fun y => x ++ [y]) fun y hy => ⟨_, rfl, ?_⟩
        refine mOp_ok (a := tupI x) (b := .tuple [.int y]) (G1 := G3) rfl (mTup_ok (mCons_ok (d := .int y) (G1 := G3) rfl mNil_ok) (by simp)) ?_
        show (if (x.map PyData.int).length + 1 ≤ 100000 then some (PyData.tuple (x.map .int ++ [.int y])) else none) = some (.tuple ((x ++ [y]).map .int))
        rw [if_pos (by rw [List.length_map]; omega), List.map_append] <;> rfl
      · rw [List.flatMap_append]
        simp
end Zd

set_option maxRecDepth 100000
set_option maxHeartbeats 4000000
namespace Zd
open PySem PySem.Spec L2
open PyProof.Rows hiding St

/-! ### k59: a drawn schema -/
theorem lcRun_st {f : Tg} {E : Evn} {te : Rd PyData} (P : PyData → Prop) (c : Nat) : ∀ {ds : List PyData}, (∀ d ∈ ds, ∃ E1, f d E = some E1 ∧ ∀ G n, Rok n G → n + c < 2 ^ 36 → ∃ y G', te E1 G = some (.ok y, G') ∧ P y ∧ Rok (n + c) G') →
    ∀ {G : Rng} {n : Nat}, Rok n G → n + c * ds.length < 2 ^ 36 → ∃ (ys : List PyData) (G' : Rng), lcRun f mYes te E ds G = some (ys, G') ∧ ys.length = ds.length ∧ (∀ y ∈ ys, P y) ∧ Rok (n + c * ds.length) G'
  | [], _, G, n, hG, _ => ⟨[], G, rfl, rfl, (fun y hy => by cases hy), hG⟩
  | d :: ds, hf, G, n, hG, hn => by
    rw [List.length_cons, Nat.mul_add, Nat.mul_one] at hn
    obtain ⟨E1, h1, h2⟩ := hf d List.mem_cons_self
    obtain ⟨y, G1, e1, p1, k1⟩ := h2 G n hG (by omega)
    obtain ⟨ys, G', r, l, pk, k2⟩ := lcRun_st P c (ds := ds) (fun e he => hf e (List.mem_cons_of_mem _ he)) k1 (by omega)
    refine ⟨y :: ys, G', lcRun_true h1 rfl e1 r, by simp [l], fun z hz => ?_, k2.mono (by rw [List.length_cons, Nat.mul_add]; omega)⟩
    rcases List.mem_cons.mp hz with rfl | hz
    · exact p1
    · exact pk z hz
theorem mSl_okG {m : Rd PyData} {d e : PyData} {lo hi : Option (Rd PyData)} {l h : Option Int} {E : Evn} {G G1 G2 G3 : Rng} (h1 : m E G = some (.ok d, G1)) (h2 : mPart lo E G1 = some (.ok l, G2)) (h3 : mPart hi E G2 = some (.ok h, G3)) (h4 : slD d l h = some e) : mSl m lo hi E G = some (.ok e, G3) := by
  unfold mSl
  rw [Rd.bind_ok h1, Rd.bind_ok h2, Rd.bind_ok h3, h4]
  rfl
theorem part_ok {m : Rd PyData} {E : Evn} {G G1 : Rng} {i : Int} (h : m E G = some (.ok (.int i), G1)) : mPart (some m) E G = some (.ok (some i), G1) := by
  show (m.bind _) E G = _
  rw [Rd.bind_ok h]
  rfl
theorem draw_gt {E : Evn} {G : Rng} {n : Nat} (h1 : E[0]? = some (some .st)) (hG : Rok n G) (hn : n < 2 ^ 37) : ∃ (k : Bool) (G' : Rng), (mOp gtD (mCallZ f_law_draw (aSt 0 (aD (Rd.ok (.int 3)) aNil))) (Rd.ok (.int 0))) E G = some (.ok (.bool k), G') ∧ Rok (n + 1) G' := by
  obtain ⟨v, G1, e1, p1, p2, k1⟩ := draw_at dr59 (i := 0) (m := Rd.ok (.int 3)) (room := 3) h1 rfl hG (by omega) (by decide) (by decide)
  exact ⟨decide (0 < v), G1, mOp_ok (g := gtD) (a := .int v) (b := .int 0) (G1 := G1) e1 rfl rfl, k1⟩
def pairsN : List (Str × Str) := [(Str.ofString "likes", Str.ofString "r"), (Str.ofString "likes", Str.ofString "s"), (Str.ofString "r", Str.ofString "s"), (Str.ofString "r", Str.ofString "u"), (Str.ofString "s", Str.ofString "u")]
def okN : Bool := sss.all fun ss => (plc ss).all fun p => (plc ss).all fun q => (rnm.all fun x => PySem.W.alike (relD (x, p)) (relD (x, p))) && pairsN.all fun xy => PySem.W.alike (relD (xy.1, p)) (relD (xy.2, q)) && PySem.W.alike (relD (xy.2, q)) (relD (xy.1, p)) && PySem.W.dataLe false id (relD (xy.1, p)) (relD (xy.2, q))
theorem okN_ok : okN = true := by decide +kernel
theorem cut_pairs : ∀ l ∈ cuts, l.Pairwise fun a b => (a, b) ∈ pairsN := by decide +kernel
theorem shaped_str (z : Str) (h : z ∈ rnm ∨ ∃ ss ∈ sss, z ∈ ss) : (PyData.str z).canLay0 = true := by
  unfold rnm sss at h
  simp only [List.mem_cons, List.not_mem_nil, or_false] at h
  rcases h with h | ⟨ss, h1, h2⟩
  · rcases h with rfl | rfl | rfl | rfl <;> decide +kernel
  · rcases h1 with rfl | rfl | rfl | rfl <;> simp only [List.mem_cons, List.not_mem_nil, or_false] at h2 <;> (first | (rcases h2 with rfl | rfl) | (subst h2)) <;> decide +kernel
theorem shaped_rel {ss : List Str} (hs : ss ∈ sss) {r : Rl} (h1 : r.1 ∈ rnm) (h2 : r.2 ∈ plc ss) : SeqAt.shaped (relD r) = true := by
  have pl : ∀ s ∈ r.2, s ∈ ss := by
    unfold plc at h2
    rw [List.mem_append, List.mem_map, List.mem_flatMap] at h2
    rcases h2 with ⟨a, ha, e⟩ | ⟨a, ha, e⟩
    · rw [← e]; intro s hs; rw [List.mem_singleton.mp hs]; exact ha
    · obtain ⟨b, hb, e⟩ := List.mem_map.mp e
      rw [← e]
      intro s hs
      simp only [List.mem_cons, List.not_mem_nil, or_false] at hs
      rcases hs with rfl | rfl
      · exact ha
      · exact hb
  have c1 := shaped_str r.1 (.inl h1)
  have c2 := can_all (ds := strL r.2) (k := 1) fun d hd => by
    obtain ⟨s, hs', rfl⟩ := List.mem_map.mp hd
    exact ⟨shaped_str s (.inr ⟨ss, hs, pl s hs'⟩), by simp [PyData.depth]⟩
  have c3 := can_all (ds := [.str r.1, .tuple (strL r.2)]) (k := 2) fun d hd => by
    simp only [List.mem_cons, List.not_mem_nil, or_false] at hd
    rcases hd with rfl | rfl
    · exact ⟨c1, by simp [PyData.depth]⟩
    · simp only [PyData.canLay0, PyData.depth]
      exact ⟨c2.1, by omega⟩
  have : (relD r).canLay0 = true ∧ (relD r).depth ≤ 3 := by
    unfold relD
    simp only [PyData.canLay0, PyData.depth]
    exact ⟨c3.1, by omega⟩
  simp [SeqAt.shaped, this.1]
  omega
theorem sort_rels {S : Sch} (h : SOk S) : sortF [.list (S.rs.map relD)] = some (.list (S.rs.map relD)) := by
  have ok := okN_ok
  unfold okN at ok
  rw [List.all_eq_true] at ok
  have ok2 : ∀ p ∈ plc S.ss, ∀ q ∈ plc S.ss, (∀ x ∈ rnm, PySem.W.alike (relD (x, p)) (relD (x, p)) = true) ∧ ∀ xy ∈ pairsN, PySem.W.alike (relD (xy.1, p)) (relD (xy.2, q)) = true ∧ PySem.W.alike (relD (xy.2, q)) (relD (xy.1, p)) = true ∧ PySem.W.dataLe false id (relD (xy.1, p)) (relD (xy.2, q)) = true := fun p hp q hq => by
    have := ok S.ss h.s
    rw [List.all_eq_true] at this
    have := this p hp
    rw [List.all_eq_true] at this
    have := this q hq
    rw [Bool.and_eq_true, List.all_eq_true, List.all_eq_true] at this
    refine ⟨this.1, fun xy hxy => ?_⟩
    have := this.2 xy hxy
    rw [Bool.and_eq_true, Bool.and_eq_true] at this
    exact ⟨this.1.1, this.1.2, this.2⟩
  have pw : S.rs.Pairwise fun a b => (a.1, b.1) ∈ pairsN := by
    have := cut_pairs _ h.n
    rw [List.pairwise_map] at this
    exact this
  have both : ∀ a ∈ S.rs, ∀ b ∈ S.rs, a = b ∨ (a.1, b.1) ∈ pairsN ∨ (b.1, a.1) ∈ pairsN := by
    have go : ∀ l : List Rl, l.Pairwise (fun a b => (a.1, b.1) ∈ pairsN) → ∀ a ∈ l, ∀ b ∈ l, a = b ∨ (a.1, b.1) ∈ pairsN ∨ (b.1, a.1) ∈ pairsN := by
      intro l
      induction l with
      | nil => intro _ a ha; cases ha
      | cons x l ih =>
        intro p a ha b hb
        rw [List.pairwise_cons] at p
        rcases List.mem_cons.mp ha with e | ha' <;> rcases List.mem_cons.mp hb with e' | hb'
        · exact .inl (e.trans e'.symm)
        · rw [e]; exact .inr (.inl (p.1 b hb'))
        · rw [e']; exact .inr (.inr (p.1 a ha'))
        · exact ih p.2 a ha' b hb'
    exact go _ pw
  have c1 : alikeB (S.rs.map relD) = true := by
    unfold alikeB
    rw [List.all_eq_true]
    intro x hx
    rw [List.all_eq_true]
    intro y hy
    obtain ⟨a, ha, rfl⟩ := List.mem_map.mp hx
    obtain ⟨b, hb, rfl⟩ := List.mem_map.mp hy
    have pa := (h.p a ha).2
    have pb := (h.p b hb).2
    rcases both a ha b hb with e | e | e
    · rw [e]; exact (ok2 _ pb _ pb).1 b.1 (h.p b hb).1
    · exact ((ok2 _ pa _ pb).2 _ e).1
    · exact ((ok2 _ pb _ pa).2 _ e).2.1
  have c2 : sortableB (S.rs.map relD) = true := by
    unfold sortableB
    rw [Bool.or_eq_true]
    left
    rw [List.all_eq_true]
    intro x hx
    obtain ⟨a, ha, rfl⟩ := List.mem_map.mp hx
    rfl
  have c3 : (S.rs.map relD).all SeqAt.shaped = true := by
    rw [List.all_eq_true]
    intro x hx
    obtain ⟨a, ha, rfl⟩ := List.mem_map.mp hx
    exact shaped_rel h.s (h.p a ha).1 (h.p a ha).2
  unfold sortF
  simp only
  rw [if_pos (by rw [c1, c2, c3]; rfl), List.mergeSort_of_pairwise]
  rw [List.pairwise_map]
  exact pw.imp_of_mem fun {a b} ha hb q => ((ok2 _ (h.p a ha).2 _ (h.p b hb).2).2 _ q).2.2
end Zd

set_option maxRecDepth 100000
set_option maxHeartbeats 4000000
namespace Zd
open PySem PySem.Spec L2
open PyProof.Rows hiding St

def nmsD : PyData := .list (strL rnm)
theorem cut_names (a b : Int) (ha : 0 ≤ a ∧ a < 2) (hb : 0 ≤ b ∧ b < 3) : ∃ l ∈ cuts, ∃ d, slD nmsD (some a) none = some d ∧ slD d none (some (1 + b)) = some (.list (strL l)) := by
  have ha' : a = 0 ∨ a = 1 := by omega
  have hb' : b = 0 ∨ b = 1 ∨ b = 2 := by omega
  rcases ha' with rfl | rfl <;> rcases hb' with rfl | rfl | rfl
  · exact ⟨rnm.take 1, by simp [cuts], _, rfl, by kernel_rfl⟩
  · exact ⟨rnm.take 2, by simp [cuts], _, rfl, by kernel_rfl⟩
  · exact ⟨rnm.take 3, by simp [cuts], _, rfl, by kernel_rfl⟩
  · exact ⟨(rnm.drop 1).take 1, by simp [cuts], _, rfl, by kernel_rfl⟩
  · exact ⟨(rnm.drop 1).take 2, by simp [cuts], _, rfl, by kernel_rfl⟩
  · exact ⟨(rnm.drop 1).take 3, by simp [cuts], _, rfl, by kernel_rfl⟩
theorem plc_of {ss : List Str} {ys : List PyData} {c : Nat} (hc : c = 1 ∨ c = 2) (hl : ys.length = c) (h : ∀ y ∈ ys, ∃ s ∈ ss, y = .str s) : ∃ pl ∈ plc ss, ys = strL pl := by
  rcases hc with rfl | rfl
  · match ys, hl with
    | [y], _ =>
      obtain ⟨s, hs, rfl⟩ := h y (by simp)
      exact ⟨[s], by unfold plc; rw [List.mem_append]; exact .inl (List.mem_map.mpr ⟨s, hs, rfl⟩), rfl⟩
  · match ys, hl with
    | [y, z], _ =>
      obtain ⟨s, hs, rfl⟩ := h y (by simp)
      obtain ⟨t, ht, rfl⟩ := h z (by simp)
      exact ⟨[s, t], by unfold plc; rw [List.mem_append, List.mem_flatMap]; exact .inr ⟨s, hs, List.mem_map.mpr ⟨t, ht, rfl⟩⟩, rfl⟩
theorem cuts_rnm : ∀ l ∈ cuts, ∀ z ∈ l, z ∈ rnm := by decide +kernel
theorem cuts_len : ∀ l ∈ cuts, l.length ≤ 3 := by decide +kernel
theorem schema_dr {G : Rng} {n : Nat} (hG : Rok n G) (hn : n < 2 ^ 35) : ∃ S G', SOk S ∧ f_law_schema [.st] G = some (.ret (schD S), G') ∧ Rok (n + 50) G' := by
  have a1 : argE 5 [.st] = [some .st, none, none, none, none] := rfl
  obtain ⟨d, G1, q1, q2, q3⟩ := pick_ok (sq := .list [.tuple (strL [Str.ofString "p"]), .tuple (strL [Str.ofString "p", Str.ofString "q"]), .tuple (strL [Str.ofString "p", Str.ofString "q"]), .tuple (strL [Str.ofString "dog", Str.ofString "man"])]) (.inl rfl) (by simp) (by simp) hG (by omega)
  obtain ⟨ss, hs, rfl⟩ : ∃ ss ∈ sss, d = .tuple (strL ss) := by
    simp only [List.mem_cons, List.not_mem_nil, or_false] at q1
    rcases q1 with rfl | rfl | rfl | rfl
    · exact ⟨_, by simp [sss], rfl⟩
    · exact ⟨_, by simp [sss], rfl⟩
    · exact ⟨_, by simp [sss], rfl⟩
    · exact ⟨_, by simp [sss], rfl⟩
  obtain ⟨a, G2, a2, a3, a4, a5⟩ := draw_at dr59 (E := [some .st, some (.d (.tuple (strL ss))), some (.own (.list [])), none, none]) (i := 0) (m := Rd.ok (.int 2)) (room := 2) rfl rfl q3 (by omega) (by omega) (by omega)
  obtain ⟨b, G3, b2, b3, b4, b5⟩ := draw_at dr59 (E := [some .st, some (.d (.tuple (strL ss))), some (.own (.list [])), none, none]) (i := 0) (m := Rd.ok (.int 3)) (room := 3) rfl rfl a5 (by omega) (by omega) (by omega)
  obtain ⟨l, hl, d1, hd1, hd2⟩ := cut_names a b ⟨a3, a4⟩ ⟨b3, b4⟩
  have it : mIt (mSl (mSl (mLst (mCons (Rd.ok (.str (Str.ofString "likes"))) (mCons (Rd.ok (.str (Str.ofString "r"))) (mCons (Rd.ok (.str (Str.ofString "s"))) (mCons (Rd.ok (.str (Str.ofString "u"))) mNil))))) (some (mCallZ f_law_draw (aSt 0 (aD (Rd.ok (.int 2)) aNil)))) none) none (some (mOp addD (Rd.ok (.int 1)) (mCallZ f_law_draw (aSt 0 (aD (Rd.ok (.int 3)) aNil)))))) [some .st, some (.d (.tuple (strL ss))), some (.own (.list [])), none, none] G1 = some (.ok (l.map .str), G3) :=
    mItL (mSl_okG (d := d1) (l := none) (h := some (1 + b)) (G1 := G2) (G2 := G2) (mSl_okG (d := nmsD) (l := some a) (h := none) (G1 := G1) (G2 := G2) rfl (part_ok a2) rfl hd1) rfl (part_ok (mOp_ok (a := .int 1) (b := .int b) (G1 := G2) rfl b2 rfl)) hd2)
  have key := forRun_map (f := tgN 3) (e := PyData.str) (mb := (sApp 2 (mTup (mCons (mVar 3) (mCons (mCallB tupF (mCons (mLc (mRange1 (mOp addD (Rd.ok (.int 1)) (mCallB intF (mCons (mOp gtD (mCallZ f_law_draw (aSt 0 (aD (Rd.ok (.int 3)) aNil))) (Rd.ok (.int 0))) mNil)))) (tgN 4) mYes (mCallZ f_law_pick (aSt 0 (aD (mVar 1) aNil))) [4]) mNil)) mNil)))))
    (fun done E G' => ∃ (rs : List Rl) (c3 : Option EV), E = [some .st, some (.d (.tuple (strL ss))), some (.own (.list (rs.map relD))), c3, none] ∧ rs.map (·.1) = done ∧ (∀ r ∈ rs, r.2 ∈ plc ss) ∧ Rok (n + 3 + 5 * done.length) G')
    (l := l) (done := []) (E := [some .st, some (.d (.tuple (strL ss))), some (.own (.list [])), none, none]) (G := G3) ⟨[], none, rfl, rfl, (fun r hr => by cases hr), b5.mono (by omega)⟩ ?_
  · obtain ⟨E', G', w1, rs, c3, rfl, e1, e2, k⟩ := key
    rw [List.nil_append] at e1 k
    have l3 := cuts_len l hl
    have ok : SOk ⟨ss, rs⟩ := ⟨hs, by show rs.map (·.1) ∈ cuts; rw [e1]; exact hl, fun r hr => ⟨cuts_rnm l hl r.1 (by rw [← e1]; exact List.mem_map.mpr ⟨r, hr, rfl⟩), e2 r hr⟩⟩
    refine ⟨⟨ss, rs⟩, G', ok, fnD_ret ?_, k.mono (by omega)⟩
    rw [a1]
    unfold m_law_schema
    refine (sSeq_nx (E1 := [some .st, some (.d (.tuple (strL ss))), none, none, none]) (G1 := G1) (sSet_ok (vD_ok (mCallZ_ok (aSt_ok rfl (aD_ok (d := .list [.tuple (strL [Str.ofString "p"]), .tuple (strL [Str.ofString "p", Str.ofString "q"]), .tuple (strL [Str.ofString "p", Str.ofString "q"]), .tuple (strL [Str.ofString "dog", Str.ofString "man"])]) (G1 := G) rfl aNil_ok)) q2)))).trans ?_
    refine (sSeq_nx (E1 := [some .st, some (.d (.tuple (strL ss))), some (.own (.list [])), none, none]) (G1 := G1) rfl).trans ?_
    refine (sSeq_nx ((sFor_ok it).trans w1)).trans ?_
    refine sRet_ok (mTup_ok (ds := [.str (Str.ofString "schema"), .tuple (strL ss), .tuple (rs.map relD)]) (G1 := G') (mCons_ok (d := .str (Str.ofString "schema")) (G1 := G') rfl (mCons_ok (d := .tuple (strL ss)) (G1 := G') rfl (mCons_ok (G1 := G') (mCall1_ok (a := .list (rs.map relD)) (G1 := G') (mCall1_ok (a := .list (rs.map relD)) (G1 := G') rfl (sort_rels ok)) rfl) mNil_ok))) (by simp))
  · rintro pre z post hp E G4 ⟨rs, c3, rfl, e1, e2, k⟩
    rw [List.nil_append] at hp
    have pz : pre.length + 1 ≤ 3 := by
      have h1 := congrArg List.length hp
      rw [List.length_append, List.length_cons] at h1
      have h2 := cuts_len l hl
      omega
    obtain ⟨kb, G5, g1, g2⟩ := draw_gt (E := wipeE [some .st, some (.d (.tuple (strL ss))), some (.own (.list (rs.map relD))), some (.d (.str z)), none] []) rfl k (by omega)
    have g1 : (mOp gtD (mCallZ f_law_draw (aSt 0 (aD (Rd.ok (.int 3)) aNil))) (Rd.ok (.int 0))) [some .st, some (.d (.tuple (strL ss))), some (.own (.list (rs.map relD))), some (.d (.str z)), none] G4 = some (.ok (.bool kb), G5) := g1
    obtain ⟨c, hc, rng⟩ : ∃ c : Nat, (c = 1 ∨ c = 2) ∧ (mRange1 (mOp addD (Rd.ok (.int 1)) (mCallB intF (mCons (mOp gtD (mCallZ f_law_draw (aSt 0 (aD (Rd.ok (.int 3)) aNil))) (Rd.ok (.int 0))) mNil)))) [some .st, some (.d (.tuple (strL ss))), some (.own (.list (rs.map relD))), some (.d (.str z)), none] G4 = some (.ok ((List.range c).map fun (i : Nat) => PyData.int (i : Int)), G5) := by
      cases kb with
      | true => exact ⟨2, .inr rfl, mRange1_ok (mOp_ok (a := .int 1) (b := .int 1) (G1 := G4) rfl (mCall1_ok g1 rfl) rfl) (by omega)⟩
      | false => exact ⟨1, .inl rfl, mRange1_ok (mOp_ok (a := .int 1) (b := .int 0) (G1 := G4) rfl (mCall1_ok g1 rfl) rfl) (by omega)⟩
    have hss : 0 < ss.length ∧ ss.length ≤ 2 := by
      unfold sss at hs
      simp only [List.mem_cons, List.not_mem_nil, or_false] at hs
      rcases hs with rfl | rfl | rfl | rfl <;> decide
    obtain ⟨ys, G6, y1, y2, y3, y4⟩ := lcRun_st (f := tgN 4) (te := mCallZ f_law_pick (aSt 0 (aD (mVar 1) aNil))) (E := wipeE [some .st, some (.d (.tuple (strL ss))), some (.own (.list (rs.map relD))), some (.d (.str z)), none] [4]) (fun y => ∃ s ∈ ss, y = .str s) 1 (ds := (List.range c).map fun (i : Nat) => PyData.int (i : Int)) (fun d hd => ⟨_, rfl, fun G n hG hn => by
      obtain ⟨y, G', u1, u2, u3⟩ := pick_ok (sq := .tuple (strL ss)) (.inr rfl) (by simp [strL]; omega) (by simp [strL]; omega) hG (by omega)
      obtain ⟨s, hs', rfl⟩ := List.mem_map.mp u1
      exact ⟨.str s, G', mCallZ_ok (aSt_ok rfl (aD_ok (d := .tuple (strL ss)) (G1 := G) rfl aNil_ok)) u2, ⟨s, hs', rfl⟩, u3⟩⟩) g2 (by rw [List.length_map, List.length_range]; omega)
    have cl : ((List.range c).map fun (i : Nat) => PyData.int (i : Int)).length = c := by simp
    rw [cl] at y2 y4
    obtain ⟨pl, hp1, rfl⟩ := plc_of hc y2 y3
    have rl : rs.length = pre.length := by rw [← e1, List.length_map]
    refine ⟨[some .st, some (.d (.tuple (strL ss))), some (.own (.list (rs.map relD))), some (.d (.str z)), none], _, G6, rfl, sApp_ok (ds := rs.map relD) (d := relD (z, pl)) (G1 := G6) rfl (mTup_ok (ds := [.str z, .tuple (strL pl)]) (mCons_ok (d := .str z) (G1 := G4) rfl (mCons_ok (mCall1_ok (mLc_ok rng (by rw [cl]; omega) y1) rfl) mNil_ok)) (by simp)) (by rw [List.length_map]; omega), rs ++ [(z, pl)], some (.d (.str z)), ?_, ?_, fun r hr => ?_, y4.mono (by rw [List.length_append, List.length_cons, List.length_nil]; omega)⟩
    · rw [List.map_append]
      rfl
    · rw [List.map_append, e1]
      rfl
    · rcases List.mem_append.mp hr with hr | hr
      · exact e2 r hr
      · rw [List.mem_singleton.mp hr]
        exact hp1
end Zd

set_option maxRecDepth 100000
set_option maxHeartbeats 4000000
namespace Zd
open PySem PySem.Spec L2
open PyProof.Rows hiding St

/-! ### k59: a drawn store -/
theorem map_erase {α β : Type} (f : α → β) : ∀ (l : List α) (i : Nat), (l.map f).eraseIdx i = (l.eraseIdx i).map f
  | [], _ => rfl
  | _ :: _, 0 => rfl
  | a :: l, i + 1 => by
    show f a :: (l.map f).eraseIdx i = f a :: (l.eraseIdx i).map f
    rw [map_erase f l i]
theorem ne_list (L : List Int) : neD (.list (L.map .int)) (.list []) = some (.bool (!L.isEmpty)) := by
  rw [ne_ok (shaped_ints _) shaped_nil]
  cases L <;> rfl
theorem shuffled_ok {L : List Int} (hz : L.length ≤ 20) {G : Rng} {n : Nat} (hG : Rok n G) (hn : n < 2 ^ 37) : ∃ (M : List Int) (G' : Rng), M.length = L.length ∧ f_law_shuffled [.st, .d (.list (L.map .int))] G = some (.ret (.list (M.map .int)), G') ∧ Rok (n + L.length) G' := by
  have a1 : argE 4 [.st, .d (.list (L.map .int))] = [some .st, some (.d (.list (L.map .int))), none, none] := rfl
  obtain ⟨E', G', w1, M, q1, rfl, q2⟩ := wh_inv (c := (mT (mOp neD (mBor 2) (mLst mNil)))) (mb := (sAppPop 3 2 (mCallZ f_law_draw (aSt 0 (aD (mCallB lenF (mCons (mBor 2) mNil)) aNil)))))
    (fun m E G => ∃ (left found : List Int), E = [some .st, some (.d (.list (L.map .int))), some (.own (.list (left.map .int))), some (.own (.list (found.map .int)))] ∧ left.length = m ∧ found.length + m = L.length ∧ Rok (n + found.length) G)
    (fun E G => ∃ M : List Int, M.length = L.length ∧ E = [some .st, some (.d (.list (L.map .int))), some (.own (.list [])), some (.own (.list (M.map .int)))] ∧ Rok (n + L.length) G)
    (fun m E G ⟨left, found, hE, h1, h2, h3⟩ => by
      subst hE
      have t1 : (mT (mOp neD (mBor 2) (mLst mNil))) [some .st, some (.d (.list (L.map .int))), some (.own (.list (left.map .int))), some (.own (.list (found.map .int)))] G = some (.ok (!left.isEmpty), G) := mT_ok (mOp_ok (a := .list (left.map .int)) (b := .list []) (G1 := G) rfl rfl (ne_list left))
      cases left with
      | nil =>
        refine .inl ⟨G, t1, found, ?_, rfl, h3.mono (by omega)⟩
        simp at h1
        omega
      | cons x left =>
        rw [List.length_cons] at h1
        obtain ⟨v, G2, e1, p1, p2, k1⟩ := draw_at dr59 (E := [some .st, some (.d (.list (L.map .int))), some (.own (.list ((x :: left).map .int))), some (.own (.list (found.map .int)))]) (i := 0) (m := mCallB lenF (mCons (mBor 2) mNil)) (room := ((x :: left).length : Int)) rfl (mCall1_ok (a := .list ((x :: left).map .int)) (G1 := G) rfl (by show some (PyData.int _) = _; rw [List.length_map])) h3 (by omega) (by simp only [List.length_cons]; omega) (by simp only [List.length_cons]; omega)
        have hv : v.toNat < (x :: left).length := by omega
        refine .inr ⟨G, [some .st, some (.d (.list (L.map .int))), some (.own (.list (((x :: left).eraseIdx v.toNat).map .int))), some (.own (.list ((found ++ [(x :: left)[v.toNat]]).map .int)))], G2, left.length, t1, ?_, by omega, (x :: left).eraseIdx v.toNat, found ++ [(x :: left)[v.toNat]], rfl, ?_, ?_, ?_⟩
        · unfold sAppPop onL
          simp only [List.getElem?_cons_succ, List.getElem?_cons_zero]
          rw [rdS_ok e1]
          simp only
          have sx : seqIndex? v ((x :: left).map PyData.int).length = some v.toNat := by
            rw [List.length_map]
            unfold seqIndex?
            simp only [if_neg (show ¬ v < 0 by omega), decide_eq_true p1, decide_eq_true p2, Bool.and_self, if_true]
          rw [if_pos ⟨by omega, by simp only [List.length_cons] at p2 ⊢; omega⟩, sx]
          simp only [Option.bind]
          rw [List.getElem?_map, List.getElem?_eq_getElem hv]
          simp only [Option.map, List.set_cons_succ, List.set_cons_zero, List.getElem?_cons_succ, List.getElem?_cons_zero]
          rw [if_pos (by rw [List.length_map]; omega)]
          rw [map_erase, List.map_append]
          rfl
        · rw [List.length_eraseIdx_of_lt hv, List.length_cons]
          omega
        · rw [List.length_append, List.length_cons, List.length_nil]
          omega
        · exact k1.mono (by rw [List.length_append, List.length_cons, List.length_nil]; omega)) (n := L.length) (E := [some .st, some (.d (.list (L.map .int))), some (.own (.list (L.map .int))), some (.own (.list []))]) (G := G) ⟨L, [], rfl, rfl, by simp, hG⟩
  refine ⟨M, G', q1, fnD_ret ?_, q2⟩
  rw [a1]
  unfold m_law_shuffled
  refine (sSeq_nx (E1 := [some .st, some (.d (.list (L.map .int))), some (.own (.list (L.map .int))), some (.own (.list []))]) (G1 := G) rfl).trans ?_
  refine (sSeq_nx w1).trans ?_
  rw [sFrz_own (d := .list (M.map .int)) rfl]
  rfl
theorem cut_ints (M : List Int) {v : Int} (hv : 0 ≤ v) : ∃ L : List Int, cutD (M.map .int) none (some v) = L.map .int ∧ L.length ≤ v.toNat := by
  refine ⟨M.take (HT.sIx (M.map PyData.int).length (M.map PyData.int).length (some v) - 0), ?_, ?_⟩
  · unfold cutD
    rw [show HT.sIx (M.map PyData.int).length 0 none = 0 from rfl, List.drop_zero, List.map_take]
  · rw [List.length_take]
    have : HT.sIx (M.map PyData.int).length (M.map PyData.int).length (some v) = min v.toNat (M.map PyData.int).length := if_neg (by omega)
    rw [this]
    omega
theorem pairsOf_map {β : Type} (nm : β → Str) (v : β → PyData) : ∀ l : List β, pairsOf (l.map fun b => .tuple [.str (nm b), v b]) = some (l.map fun b => (.inr (nm b), v b))
  | [] => rfl
  | b :: l => by
    rw [List.map_cons]
    unfold pairsOf
    rw [pairsOf_map nm v l]
    rfl
theorem dictX_map {β : Type} (nm : β → Str) (v : β → PyData) {l : List β} (nd : (l.map fun b => kS (nm b)).Nodup) : dictXF [.list (l.map fun b => .tuple [.str (nm b), v b])] = some (.dict (kvL (fun b => kS (nm b)) v l)) := by
  unfold dictXF
  simp only
  rw [pairsOf_map]
  simp only
  unfold mergeD
  rw [List.foldl_map]
  have := kvL_fold (fun b => kS (nm b)) v (l := l) (acc := []) (by simpa using nd)
  have e : kvL (fun b => kS (nm b)) v [] = [] := rfl
  rw [e, List.nil_append] at this
  rw [← this]
  rfl
theorem sort_any {l : List (List Int)} (h : ∀ x ∈ l, x ≠ []) : sortF [.list (l.map tupI)] = some (.list ((l.map tupI).mergeSort (PySem.W.dataLe false id))) := by
  unfold sortF
  simp only
  rw [if_pos (by rw [alike_rows, sortable_rows h, shaped_rows]; rfl)]
def stD (ts os : List (List PyData)) : PyData := .tuple [.str (Str.ofString "store"), .tuple (ts.map .tuple), .tuple (os.map .tuple)]
structure StOk (ts os : List (List PyData)) : Prop where
  t : ts.length ≤ 2
  t1 : ∀ t ∈ ts, Sh 1 (.tuple t)
  o : os.length ≤ 3
  o1 : ∀ o ∈ os, Sh 2 (.tuple o)
def eight : List Int := [0, 1, 2, 3, 5, 8, 12, 999]
theorem store_dr {S : Sch} (h : SOk S) {G : Rng} {n : Nat} (hG : Rok n G) (hn : n < 2 ^ 35) : ∃ ts os G', f_law_store [.st, .d (schD S), .d (.int 4)] G = some (.ret (stD ts os), G') ∧ StOk ts os ∧ Rok (n + 300) G' := by
  obtain ⟨l1, l2, l3⟩ := h.ls
  obtain ⟨r1, r2, r3⟩ := h.lr
  generalize hsc : schD S = sc
  have c1 : ixD sc (.int 1) = some (.tuple (strL S.ss)) := by rw [← hsc]; rfl
  have c2 : ixD sc (.int 2) = some (.tuple (S.rs.map relD)) := by rw [← hsc]; rfl
  have a1 : argE 11 [.st, .d sc, .d (.int 4)] = [some .st, some (.d sc), some (.d (.int 4)), none, none, none, none, none, none, none, none] := rfl
  obtain ⟨K, G1, pk, rr, k1⟩ := lcRun_fn (e := PyData.str) (f := tgN 8) (E := wipeE [some .st, some (.d sc), some (.d (.int 4)), none, none, none, none, none, none, none, none] [8])
    (te := (mTup (mCons (mVar 8) (mCons (mCallB sortY (mCons (mSl (mCallZ f_law_shuffled (aSt 0 (aD (mLst (mCons (Rd.ok (.int 0)) (mCons (Rd.ok (.int 1)) (mCons (Rd.ok (.int 2)) (mCons (Rd.ok (.int 3)) (mCons (Rd.ok (.int 5)) (mCons (Rd.ok (.int 8)) (mCons (Rd.ok (.int 12)) (mCons (Rd.ok (.int 999)) mNil))))))))) aNil))) none (some (mCallZ f_law_draw (aSt 0 (aD (mOp addD (mBor 2) (Rd.ok (.int 1))) aNil))))) mNil)) mNil))))
    (fun (s : Str) (L : List Int) => L.length ≤ 4) (fun s L => .tuple [.str s, .list (lotI.ens L)]) 20 (l := S.ss) l3 (fun s hs => ⟨_, rfl, fun G n hG hn => by
      obtain ⟨M, G2, m1, m2, m3⟩ := shuffled_ok (L := eight) (by decide) hG (by omega)
      obtain ⟨v, G3, v1, v2, v3, v4⟩ := draw_at dr59 (E := [some .st, some (.d sc), some (.d (.int 4)), none, none, none, none, none, some (.d (.str s)), none, none]) (i := 0) (m := mOp addD (mBor 2) (Rd.ok (.int 1))) (room := 5) rfl rfl m3 (by show n + 8 < 2 ^ 38; omega) (by omega) (by omega)
      obtain ⟨L, x1, x2⟩ := cut_ints M v2
      refine ⟨L.mergeSort fun a b => decide (a ≤ b), G3, mTup_ok (ds := [.str s, .list (lotI.ens (L.mergeSort fun a b => decide (a ≤ b)))]) (G1 := G3) (mCons_ok (d := .str s) (G1 := G) rfl (mCons_ok (G1 := G3) (mCall1_ok (a := .list (cutD (M.map .int) none (some v))) (G1 := G3) (mSl_okG (d := .list (M.map .int)) (l := none) (h := some v) (G1 := G2) (G2 := G2) (mCallZ_ok (aSt_ok rfl (aD_ok (d := .list (eight.map .int)) (G1 := G) rfl aNil_ok)) m2) rfl (part_ok v1) rfl) ?_) mNil_ok)) (by simp), ?_, v4.mono (by show n + 8 + 1 ≤ n + 20; omega)⟩
      · rw [x1]
        exact sort_ints L
      · rw [List.length_mergeSort]
        omega⟩) hG (by omega)
  have dx : (mCallB dictXF (mCons (mLc (mIt (mOp ixD (mBor 1) (Rd.ok (.int 1)))) (tgN 8) mYes (mTup (mCons (mVar 8) (mCons (mCallB sortY (mCons (mSl (mCallZ f_law_shuffled (aSt 0 (aD (mLst (mCons (Rd.ok (.int 0)) (mCons (Rd.ok (.int 1)) (mCons (Rd.ok (.int 2)) (mCons (Rd.ok (.int 3)) (mCons (Rd.ok (.int 5)) (mCons (Rd.ok (.int 8)) (mCons (Rd.ok (.int 12)) (mCons (Rd.ok (.int 999)) mNil))))))))) aNil))) none (some (mCallZ f_law_draw (aSt 0 (aD (mOp addD (mBor 2) (Rd.ok (.int 1))) aNil))))) mNil)) mNil))) [8]) mNil))
      [some .st, some (.d sc), some (.d (.int 4)), none, none, none, none, none, none, none, none] G = some (.ok (.dict (kvL kS (fun s => .list (lotI.ens (K s))) S.ss)), G1) :=
    mCall1_ok (mLc_ok (ds := S.ss.map .str) (G1 := G) (mItT (mOp_ok (a := sc) (b := .int 1) (G1 := G) rfl rfl c1)) (by rw [List.length_map]; omega) rr) (dictX_map id (fun s => .list (lotI.ens (K s))) (nd_kS l3))
  generalize hkd : PyData.dict (kvL kS (fun s => .list (lotI.ens (K s))) S.ss) = kd at dx
  obtain ⟨od, G2, o1, o2, o3⟩ := pick_ok (sq := .list [.int 2, .int 3, .int 2]) (.inl rfl) (by simp) (by simp) k1 (by omega)
  obtain ⟨q, hq, rfl⟩ : ∃ q : Int, (0 < q ∧ q < 10) ∧ od = .int q := by
    simp only [List.mem_cons, List.not_mem_nil, or_false] at o1
    rcases o1 with rfl | rfl | rfl
    · exact ⟨2, by omega, rfl⟩
    · exact ⟨3, by omega, rfl⟩
    · exact ⟨2, by omega, rfl⟩
  have key := forRun_map (f := tgT 2 (tgCons (tgN 6) (tgCons (tgN 7) tgNil))) (e := relD) (mb := (sApp 4 (mCallB tupF (mCons (mCallB sortF (mCons (mLc (mIt (mCallZ f_law_tuples (aD (mLc (mIt (mBor 7)) (tgN 10) mYes (mOp ixD (mBor 3) (mBor 10)) [10]) aNil))) (tgN 9) (mT (mOp eqD (mCallZ f_law_draw (aSt 0 (aD (mVar 5) aNil))) (Rd.ok (.int 0)))) (mVar 9) [9]) mNil)) mNil))))
    (fun done E G' => ∃ (os : List (List PyData)) (c6 c7 : Option EV), E = [some .st, some (.d sc), some (.d (.int 4)), some (.own kd), some (.own (.list (os.map .tuple))), some (.d (.int q)), c6, c7, none, none, none] ∧ os.length = done.length ∧ (∀ o ∈ os, Sh 2 (.tuple o)) ∧ Rok (n + 20 * S.ss.length + 1 + 30 * done.length) G')
    (l := S.rs) (done := []) (E := [some .st, some (.d sc), some (.d (.int 4)), some (.own kd), some (.own (.list [])), some (.d (.int q)), none, none, none, none, none]) (G := G2) ⟨[], none, none, rfl, rfl, (fun o ho => by cases ho), o3.mono (by omega)⟩ ?_
  · obtain ⟨E', G', w1, os, c6, c7, rfl, e1, e2, k⟩ := key
    rw [List.nil_append] at e1 k
    refine ⟨S.ss.map fun s => lotI.ens (K s), os, G', fnD_ret ?_, ⟨by rw [List.length_map]; omega, fun t ht => ?_, by omega, e2⟩, k.mono (by omega)⟩
    · rw [a1]
      unfold m_law_store
      refine (sSeq_nx (E1 := [some .st, some (.d sc), some (.d (.int 4)), some (.own kd), none, none, none, none, none, none, none]) (G1 := G1) (sSet_ok (vF_ok dx))).trans ?_
      refine (sSeq_nx (E1 := [some .st, some (.d sc), some (.d (.int 4)), some (.own kd), some (.own (.list [])), some (.d (.int q)), none, none, none, none, none]) (G1 := G2) (sPar_ok (a := .own (.list [])) (b := .d (.int q)) (G1 := G1) rfl (vD_ok (mCallZ_ok (aSt_ok rfl (aD_ok (d := .list [.int 2, .int 3, .int 2]) (G1 := G1) rfl aNil_ok)) o2)))).trans ?_
      refine (sSeq_nx ((sFor_ok (mItT (mOp_ok (a := sc) (b := .int 2) (G1 := G2) rfl rfl c2))).trans w1)).trans ?_
      have lc : (mLc (mIt (mOp ixD (mBor 1) (Rd.ok (.int 1)))) (tgN 8) mYes (mCallB tupF (mCons (mOp ixD (mBor 3) (mBor 8)) mNil)) [8]) [some .st, some (.d sc), some (.d (.int 4)), some (.own kd), some (.own (.list (os.map .tuple))), some (.d (.int q)), c6, c7, none, none, none] G' = some (.ok (.list (S.ss.map fun s => .tuple (lotI.ens (K s)))), G') := by
        refine mLc_ok (ds := S.ss.map .str) (G1 := G') (mItT (mOp_ok (a := sc) (b := .int 1) (G1 := G') rfl rfl c1)) (by rw [List.length_map]; omega) (lcRun_all (e := .str) (fun s => .tuple (lotI.ens (K s))) fun s hs => ⟨_, rfl, ?_⟩)
        refine mCall1_ok (a := .list (lotI.ens (K s))) (G1 := G') (mOp_ok (a := kd) (b := .str s) (G1 := G') rfl rfl ?_) rfl
        rw [← hkd]
        exact kinds_ix l3 _ hs
      refine sRet_ok (mTup_ok (ds := [.str (Str.ofString "store"), .tuple ((S.ss.map fun s => lotI.ens (K s)).map .tuple), .tuple (os.map .tuple)]) (G1 := G') (mCons_ok (d := .str (Str.ofString "store")) (G1 := G') rfl (mCons_ok (G1 := G') (mCall1_ok lc ?_) (mCons_ok (G1 := G') (mCall1_ok (a := .list (os.map .tuple)) (G1 := G') rfl rfl) mNil_ok))) (by simp))
      rw [List.map_map]
      rfl
    · obtain ⟨s, hs, rfl⟩ := List.mem_map.mp ht
      refine .tup (by rw [ens_len]; have := pk s hs; omega) fun d hd => ?_
      obtain ⟨i, hi, rfl⟩ := List.mem_map.mp hd
      exact .int
  · rintro pre r post hp E G3 ⟨os, c6, c7, rfl, e1, e2, k⟩
    rw [List.nil_append] at hp
    have hr : r ∈ S.rs := by rw [hp]; simp
    have pl := h.pl hr
    have pz : pre.length + 1 ≤ S.rs.length := by
      have := congrArg List.length hp
      rw [List.length_append, List.length_cons] at this
      omega
    obtain ⟨F, f1, f2, f3⟩ := lots_ok (ls := r.2.map K) (by rw [List.length_map]; exact pl.2.2) (fun l hl => by
      obtain ⟨s, hs, rfl⟩ := List.mem_map.mp hl
      have := pk s (pl.1 s hs)
      omega) G3
    have i1 : (mIt (mCallZ f_law_tuples (aD (mLc (mIt (mBor 7)) (tgN 10) mYes (mOp ixD (mBor 3) (mBor 10)) [10]) aNil))) [some .st, some (.d sc), some (.d (.int 4)), some (.own kd), some (.own (.list (os.map .tuple))), some (.d (.int q)), some (.d (.str r.1)), some (.d (.tuple (strL r.2))), none, none, none] G3 = some (.ok (F.map tupI), G3) := by
      refine mItL (mCallZ_ok (aD_ok (d := .list ((r.2.map K).map fun l => .list (lotI.ens l))) (G1 := G3) (mLc_ok (ds := r.2.map .str) (G1 := G3) (mItT rfl) (by rw [List.length_map]; omega) ?_) aNil_ok) f1)
      rw [List.map_map]
      refine lcRun_all (e := .str) ((fun l => PyData.list (lotI.ens l)) ∘ K) fun s hs => ⟨_, rfl, ?_⟩
      refine mOp_ok (a := kd) (b := .str s) (G1 := G3) rfl rfl ?_
      rw [← hkd]
      exact kinds_ix l3 (fun s => .list (lotI.ens (K s))) (pl.1 s hs)
    obtain ⟨l', G4, sub, rr', kk⟩ := lcRun_draw (e := tupI) (f := tgN 9) (tt := (mT (mOp eqD (mCallZ f_law_draw (aSt 0 (aD (mVar 5) aNil))) (Rd.ok (.int 0))))) (te := mVar 9) (E := wipeE [some .st, some (.d sc), some (.d (.int 4)), some (.own kd), some (.own (.list (os.map .tuple))), some (.d (.int q)), some (.d (.str r.1)), some (.d (.tuple (strL r.2))), none, none, none] [9]) tupI (l := F) (fun x hx => ⟨_, rfl, fun G n hG hn => by
      obtain ⟨v, G', v1, v2, v3, v4⟩ := draw_at dr59 (E := [some .st, some (.d sc), some (.d (.int 4)), some (.own kd), some (.own (.list (os.map .tuple))), some (.d (.int q)), some (.d (.str r.1)), some (.d (.tuple (strL r.2))), none, some (.d (tupI x)), none]) (i := 0) (m := mVar 5) (room := q) rfl rfl hG (by omega) (by omega) (by omega)
      exact ⟨_, G', mT_ok (mOp_ok (g := eqD) (a := .int v) (b := .int 0) (G1 := G') v1 rfl (eq_ok (shaped_int _) (shaped_int _))), v4, rfl⟩⟩) k (by omega)
    have ne : ∀ x ∈ l', x ≠ [] := fun x hx z => by
      have := (f3 x (sub.subset hx)).1
      rw [z, List.length_map] at this
      simp at this
      omega
    have m1 : (mLc (mIt (mCallZ f_law_tuples (aD (mLc (mIt (mBor 7)) (tgN 10) mYes (mOp ixD (mBor 3) (mBor 10)) [10]) aNil))) (tgN 9) (mT (mOp eqD (mCallZ f_law_draw (aSt 0 (aD (mVar 5) aNil))) (Rd.ok (.int 0)))) (mVar 9) [9]) [some .st, some (.d sc), some (.d (.int 4)), some (.own kd), some (.own (.list (os.map .tuple))), some (.d (.int q)), some (.d (.str r.1)), some (.d (.tuple (strL r.2))), none, none, none] G3 = some (.ok (.list (l'.map tupI)), G4) :=
      mLc_ok i1 (by rw [List.length_map]; omega) rr'
    have sl := sub.length_le
    refine ⟨[some .st, some (.d sc), some (.d (.int 4)), some (.own kd), some (.own (.list (os.map .tuple))), some (.d (.int q)), some (.d (.str r.1)), some (.d (.tuple (strL r.2))), none, none, none], _, G4, rfl, sApp_ok (ds := os.map .tuple) (d := .tuple ((l'.map tupI).mergeSort (PySem.W.dataLe false id))) (G1 := G4) rfl (mCall1_ok (mCall1_ok m1 (sort_any ne)) rfl) (by rw [List.length_map]; omega), os ++ [(l'.map tupI).mergeSort (PySem.W.dataLe false id)], some (.d (.str r.1)), some (.d (.tuple (strL r.2))), ?_, ?_, fun o ho => ?_, kk.mono (by rw [List.length_append, List.length_cons, List.length_nil]; omega)⟩
    · rw [List.map_append]
      rfl
    · rw [List.length_append, List.length_append, e1]
      rfl
    · rcases List.mem_append.mp ho with ho | ho
      · exact e2 o ho
      · rw [List.mem_singleton.mp ho]
        refine .tup (by rw [List.length_mergeSort, List.length_map]; omega) fun d hd => ?_
        obtain ⟨x, hx, rfl⟩ := List.mem_map.mp (List.mem_mergeSort.mp hd)
        have := (f3 x (sub.subset hx)).1
        rw [List.length_map] at this
        refine .tup (by rw [List.length_map]; omega) fun e he => ?_
        obtain ⟨i, hi, rfl⟩ := List.mem_map.mp he
        exact .int
end Zd

set_option maxRecDepth 100000
set_option maxHeartbeats 4000000
namespace Zd
open PySem PySem.Spec L2
open PyProof.Rows hiding St

/-! ### k59: the turn -/
theorem Sh.up : ∀ {k : Nat} {d : PyData}, Sh k d → Sh (k + 1) d
  | _, _, .int => .int
  | _, _, .store => .store
  | _, _, .tup h1 h2 => .tup h1 fun d hd => (h2 d hd).up
theorem Sh.inv {k : Nat} {ds : List PyData} : Sh (k + 1) (.tuple ds) → ds.length ≤ 25 ∧ ∀ d ∈ ds, Sh k d
  | .tup h1 h2 => ⟨h1, h2⟩
theorem StOk.sh {ts os : List (List PyData)} (h : StOk ts os) : Sh 4 (stD ts os) := by
  have t := h.t
  have o := h.o
  refine .tup (by simp) fun d hd => ?_
  simp only [List.mem_cons, List.not_mem_nil, or_false] at hd
  rcases hd with rfl | rfl | rfl
  · exact .store
  · refine .tup (by rw [List.length_map]; omega) fun d hd => ?_
    obtain ⟨t, ht, rfl⟩ := List.mem_map.mp hd
    exact (h.t1 t ht).up
  · refine .tup (by rw [List.length_map]; omega) fun d hd => ?_
    obtain ⟨t, ht, rfl⟩ := List.mem_map.mp hd
    exact h.o1 t ht
theorem lim_st {a b : List PyData} (ha : a.length ≤ 60 ∧ ∀ d ∈ a, Lim 2 d) (hb : b.length ≤ 60 ∧ ∀ d ∈ b, Lim 2 d) : Lim 4 (.tuple [.str (Str.ofString "store"), .tuple a, .tuple b]) := by
  refine lim_tup (by simp) fun d hd => ?_
  simp only [List.mem_cons, List.not_mem_nil, or_false] at hd
  rcases hd with rfl | rfl | rfl
  · exact lim_nt rfl
  · exact lim_tup ha.1 ha.2
  · exact lim_tup hb.1 hb.2
theorem lim_sub {k : Nat} {ds es : List PyData} (h : Sh (k + 1) (.tuple ds)) (hl : es.length ≤ ds.length) (hm : ∀ e ∈ es, e ∈ ds) : Lim (k + 1) (.tuple es) := by
  obtain ⟨h1, h2⟩ := h.inv
  exact lim_tup (by omega) fun d hd => (h2 d (hm d hd)).lim
def empD (S : Sch) : PyData := .tuple [.str (Str.ofString "store"), .tuple (List.replicate S.ss.length (.tuple [])), .tuple (List.replicate S.rs.length (.tuple []))]
theorem rep_ok {n : Nat} (h1 : 1 ≤ n) (h2 : n ≤ 1000) : mulXD (.tuple [.tuple []]) (.int (n : Int)) = some (.tuple (List.replicate n (.tuple []))) := by
  show (if _ then some (PyData.tuple (List.replicate (Int.toNat n) [PyData.tuple []]).flatten) else none) = _
  rw [if_pos ⟨by simp, by omega, by omega, by simp⟩, Int.toNat_natCast, List.flatten_replicate_singleton]
theorem emp_at {S : Sch} (h : SOk S) {E : Evn} {G : Rng} {i : Nat} (hE : E[i]? = some (some (.d (schD S)))) :
    (mTup (mCons (Rd.ok (.str (Str.ofString "store"))) (mCons (mOp mulXD (mTup (mCons (mTup mNil) mNil)) (mCallB lenF (mCons (mOp ixD (mBor i) (Rd.ok (.int 1))) mNil))) (mCons (mOp mulXD (mTup (mCons (mTup mNil) mNil)) (mCallB lenF (mCons (mOp ixD (mBor i) (Rd.ok (.int 2))) mNil))) mNil)))) E G = some (.ok (empD S), G) := by
  obtain ⟨l1, l2, l3⟩ := h.ls
  obtain ⟨r1, r2, r3⟩ := h.lr
  have b : mBor i E G = some (.ok (schD S), G) := by unfold mBor; rw [hE]
  have t : mTup (mCons (mTup mNil) mNil) E G = some (.ok (.tuple [.tuple []]), G) := rfl
  refine mTup_ok (ds := [.str (Str.ofString "store"), .tuple (List.replicate S.ss.length (.tuple [])), .tuple (List.replicate S.rs.length (.tuple []))]) (G1 := G) (mCons_ok (d := .str (Str.ofString "store")) (G1 := G) rfl (mCons_ok (G1 := G) (mOp_ok (G1 := G) t (mCall1_ok (a := .tuple (strL S.ss)) (d := .int (S.ss.length : Int)) (mOp_ok (a := schD S) (b := .int 1) (G1 := G) b rfl rfl) ?_) (rep_ok l1 (by omega))) (mCons_ok (G1 := G) (mOp_ok (G1 := G) t (mCall1_ok (a := .tuple (S.rs.map relD)) (d := .int (S.rs.length : Int)) (mOp_ok (a := schD S) (b := .int 2) (G1 := G) b rfl rfl) ?_) (rep_ok r1 (by omega))) mNil_ok))) (by simp)
  · show some (PyData.int ((strL S.ss).length : Int)) = _
    rw [show (strL S.ss).length = S.ss.length by simp [strL]]
  · show some (PyData.int ((S.rs.map relD).length : Int)) = _
    rw [List.length_map]
theorem emp_ok {S : Sch} (h : SOk S) (G : Rng) : f_empty_store [.d (schD S)] G = some (.ret (empD S), G) := by
  refine fnD_ret ?_
  unfold m_empty_store
  refine nx_ok [some (.d (schD S))] ?_ (sRet_ok (emp_at h rfl))
  unfold sDrop
  rw [rdS_ok (mCallZ_ok (aD_ok (d := schD S) (G1 := G) rfl aNil_ok) (need_ok h G))]
  rfl
theorem lim_emp {S : Sch} (h : SOk S) : Lim 4 (empD S) := by
  obtain ⟨l1, l2, l3⟩ := h.ls
  obtain ⟨r1, r2, r3⟩ := h.lr
  exact lim_st ⟨by rw [List.length_replicate]; omega, fun d hd => by rw [List.eq_of_mem_replicate hd]; exact lim_nil⟩ ⟨by rw [List.length_replicate]; omega, fun d hd => by rw [List.eq_of_mem_replicate hd]; exact lim_nil⟩
theorem stB_emp (S : Sch) : stB S (empD S) = true := by
  show ((Str.ofString "store" == Str.ofString "store") && (decide ((List.replicate S.ss.length (PyData.tuple [])).length = S.ss.length) && ((List.replicate S.ss.length (PyData.tuple [])).all thingB && (decide ((List.replicate S.rs.length (PyData.tuple [])).length = S.rs.length) && ((List.replicate S.rs.length (PyData.tuple [])).all isTup && (S.rs.zip (List.replicate S.rs.length (PyData.tuple []))).all fun p => ownB (kOf S.ss (List.replicate S.ss.length (PyData.tuple []))) p.1 p.2))))) = true
  have a1 : (List.replicate S.ss.length (PyData.tuple [])).all thingB = true := by
    rw [List.all_eq_true]
    intro d hd
    rw [List.eq_of_mem_replicate hd]
    rfl
  have a2 : (List.replicate S.rs.length (PyData.tuple [])).all isTup = true := by
    rw [List.all_eq_true]
    intro d hd
    rw [List.eq_of_mem_replicate hd]
    rfl
  have a3 : ((S.rs.zip (List.replicate S.rs.length (PyData.tuple []))).all fun p => ownB (kOf S.ss (List.replicate S.ss.length (PyData.tuple []))) p.1 p.2) = true := by
    rw [List.all_eq_true]
    rintro ⟨r, d⟩ hp
    show ownB _ r d = true
    rw [List.eq_of_mem_replicate (List.of_mem_zip hp).2]
    rfl
  rw [a1, a2, a3, List.length_replicate, List.length_replicate]
  simp
theorem isb_emp {S : Sch} (h : SOk S) : Isb 6 (empD S) := by
  obtain ⟨l1, l2, l3⟩ := h.ls
  obtain ⟨r1, r2, r3⟩ := h.lr
  have c : Nc 5 4 200 (.str (Str.ofString "store")) := ⟨.str, by decide +kernel, Nat.zero_le _, rfl, rfl, by decide +kernel⟩
  have e : Nc 1 1 1 (.tuple []) := Nc.tup (k := 0) (dp := 0) (w := 0) (L := 1) (fun d hd => by cases hd) (by simp) (by decide)
  have rp : ∀ n, n ≤ 3 → Nc 5 4 200 (.tuple (List.replicate n (.tuple []))) := fun n hn => (Nc.tup (k := 1) (dp := 1) (w := 1) (L := 3) (fun d hd => by rw [List.eq_of_mem_replicate hd]; exact e) (by rw [List.length_replicate]; exact hn) (by decide)).le (by decide) (by decide) (by decide)
  refine (Nc.tup (k := 5) (dp := 4) (w := 200) (L := 3) (fun q hq => ?_) (by simp) (by decide)).isb (by decide) (by decide)
  simp only [List.mem_cons, List.not_mem_nil, or_false] at hq
  rcases hq with rfl | rfl | rfl
  · exact c
  · exact rp _ (by omega)
  · exact rp _ r2
theorem says_ok (b : Bool) (G : Rng) : f_law_says [.d (.bool b), .d (.bool b)] G = some (.ret (.bool true), G) := by
  cases b <;> rfl
noncomputable def mTurn59 : Sd := (sSeq (sSet 4 (vD (mCallZ f_law_schema (aSt 1 aNil))))
 (sSeq (sSet 5 (vD (mCallZ f_law_store (aSt 1 (aD (mVar 4) (aD (Rd.ok (.int 4)) aNil))))))
 (sSeq (sSet 6 (vF (mLst (mCons (mVar 5) (mCons (mTup (mCons (Rd.ok (.str (Str.ofString "store"))) (mCons (mCallB tupF (mCons (mLc (mIt (mOp ixD (mBor 5) (Rd.ok (.int 1)))) (tgN 8) mYes (mUn revD (mBor 8)) [8]) mNil)) (mCons (mOp ixD (mBor 5) (Rd.ok (.int 2))) mNil)))) (mCons (mTup (mCons (Rd.ok (.str (Str.ofString "store"))) (mCons (mOp ixD (mBor 5) (Rd.ok (.int 1))) (mCons (mCallB tupF (mCons (mLc (mIt (mOp ixD (mBor 5) (Rd.ok (.int 2)))) (tgN 9) mYes (mUn revD (mBor 9)) [9]) mNil)) mNil)))) (mCons (mTup (mCons (Rd.ok (.str (Str.ofString "store"))) (mCons (mCallB tupF (mCons (mLc (mIt (mOp ixD (mBor 5) (Rd.ok (.int 1)))) (tgN 8) mYes (mSl (mBor 8) (some (Rd.ok (.int 1))) none) [8]) mNil)) (mCons (mOp ixD (mBor 5) (Rd.ok (.int 2))) mNil)))) mNil)))))))
 (sSeq (sFor (mIt (mOp catD (mBor 6) (mLc (mRange1 (Rd.ok (.int 8))) (tgN 10) mYes (mCallZ f_law_near (aSt 1 (aD (mVar 5) aNil))) [10]))) (tgN 7) (sIf (mOr (mNot (mT (mCallZ f_law_says (aD (mCallZ f_is_store (aD (mVar 4) (aD (mVar 7) aNil))) (aD (mCallZ f_law_is_store (aD (mVar 4) (aD (mVar 7) aNil))) aNil))))) (mNot (mT (mCallZ f_law_says (aD (mCallKZ f_is_store [1, 0] aNil (aD (mVar 7) (aD (mVar 4) aNil))) (aD (mCallZ f_law_is_store (aD (mVar 4) (aD (mVar 7) aNil))) aNil)))))) (sRet (Rd.ok (.bool false))) sNx))
 (sIf (mOr (mNot (mT (mCallZ f_law_is (aD (mCallZ f_empty_store (aD (mVar 4) aNil)) (aD (mTup (mCons (Rd.ok (.str (Str.ofString "store"))) (mCons (mOp mulXD (mTup (mCons (mTup mNil) mNil)) (mCallB lenF (mCons (mOp ixD (mBor 4) (Rd.ok (.int 1))) mNil))) (mCons (mOp mulXD (mTup (mCons (mTup mNil) mNil)) (mCallB lenF (mCons (mOp ixD (mBor 4) (Rd.ok (.int 2))) mNil))) mNil)))) aNil))))) (mT (mOp isNB (mCallZ f_is_store (aD (mVar 4) (aD (mCallKZ f_empty_store [0] aNil (aD (mVar 4) aNil)) aNil))) (Rd.ok (.bool true))))) (sRet (Rd.ok (.bool false))) sNx)))))
def Sh59 (ns : List Int) (E : Evn) : Prop := ∃ c2 c3 c4 c5 c6 c7, E = [some (.scr ns), some .st, c2, c3, c4, c5, c6, c7, none, none, none]
theorem turn59 {ns : List Int} {E : Evn} {G : Rng} {n : Nat} (hE : Sh59 ns E) (hG : Rok n G) (hn : n < 2 ^ 34) : ∃ E' G', mTurn59 E G = some (.nx E', G') ∧ Sh59 ns E' ∧ Rok (n + 1000) G' := by
  obtain ⟨c2, c3, c4, c5, c6, c7, rfl⟩ := hE
  obtain ⟨S, G1, hS, e1, k1⟩ := schema_dr hG (by omega)
  obtain ⟨ts, os, G2, e2, ho, k2⟩ := store_dr hS k1 (by omega)
  have t2 := ho.t
  have o3 := ho.o
  have sh := ho.sh
  have p1 := fun v hv G => isp_ok hS (v := v) hv G
  have p2 := fun v hv G => isl_ok hS (v := v) hv G
  have p3 := emp_ok hS
  have p5 := isb_emp hS
  have p6 := lim_emp hS
  have p7 := stB_emp S
  have emp := fun {E G i} hE => emp_at hS (E := E) (G := G) (i := i) hE
  generalize hsc : schD S = sc at *
  generalize hst : stD ts os = st at *
  have i1 : ixD st (.int 1) = some (.tuple (ts.map .tuple)) := by rw [← hst]; rfl
  have i2 : ixD st (.int 2) = some (.tuple (os.map .tuple)) := by rw [← hst]; rfl
  have s1 : (sSet 4 (vD (mCallZ f_law_schema (aSt 1 aNil)))) [some (.scr ns), some .st, c2, c3, c4, c5, c6, c7, none, none, none] G = some (.nx [some (.scr ns), some .st, c2, c3, some (.d sc), c5, c6, c7, none, none, none], G1) := sSet_ok (vD_ok (mCallZ_ok (aSt_ok rfl aNil_ok) e1))
  have s2 : (sSet 5 (vD (mCallZ f_law_store (aSt 1 (aD (mVar 4) (aD (Rd.ok (.int 4)) aNil)))))) [some (.scr ns), some .st, c2, c3, some (.d sc), c5, c6, c7, none, none, none] G1 = some (.nx [some (.scr ns), some .st, c2, c3, some (.d sc), some (.d st), c6, c7, none, none, none], G2) := sSet_ok (vD_ok (mCallZ_ok (aSt_ok rfl (aD_ok (d := sc) (G1 := G1) rfl (aD_ok (d := .int 4) (G1 := G1) rfl aNil_ok))) e2))
  have lc : ∀ (j i : Nat) (te : Rd PyData) (h : List PyData → PyData) (l : List (List PyData)), l.length ≤ 3 → (mOp ixD (mBor 5) (Rd.ok (.int j))) [some (.scr ns), some .st, c2, c3, some (.d sc), some (.d st), c6, c7, none, none, none] G2 = some (.ok (.tuple (l.map .tuple)), G2) → (∀ t, ∃ E1, tgN i (.tuple t) (wipeE [some (.scr ns), some .st, c2, c3, some (.d sc), some (.d st), c6, c7, none, none, none] [i]) = some E1 ∧ te E1 G2 = some (.ok (h t), G2)) →
      (mCallB tupF (mCons (mLc (mIt (mOp ixD (mBor 5) (Rd.ok (.int j)))) (tgN i) mYes te [i]) mNil)) [some (.scr ns), some .st, c2, c3, some (.d sc), some (.d st), c6, c7, none, none, none] G2 = some (.ok (.tuple (l.map h)), G2) := fun j i te h l hl hm ht =>
    mCall1_ok (mLc_ok (ds := l.map .tuple) (G1 := G2) (mItT hm) (by rw [List.length_map]; omega) (lcRun_all (e := .tuple) h fun t _ => ht t)) rfl
  have x1 : (mOp ixD (mBor 5) (Rd.ok (.int 1))) [some (.scr ns), some .st, c2, c3, some (.d sc), some (.d st), c6, c7, none, none, none] G2 = some (.ok (.tuple (ts.map .tuple)), G2) := mOp_ok (a := st) (b := .int 1) (G1 := G2) rfl rfl i1
  have x2 : (mOp ixD (mBor 5) (Rd.ok (.int 2))) [some (.scr ns), some .st, c2, c3, some (.d sc), some (.d st), c6, c7, none, none, none] G2 = some (.ok (.tuple (os.map .tuple)), G2) := mOp_ok (a := st) (b := .int 2) (G1 := G2) rfl rfl i2
  have tri : ∀ {m1 m2 : Rd PyData} {a b : List PyData}, m1 [some (.scr ns), some .st, c2, c3, some (.d sc), some (.d st), c6, c7, none, none, none] G2 = some (.ok (.tuple a), G2) → m2 [some (.scr ns), some .st, c2, c3, some (.d sc), some (.d st), c6, c7, none, none, none] G2 = some (.ok (.tuple b), G2) → mTup (mCons (Rd.ok (.str (Str.ofString "store"))) (mCons m1 (mCons m2 mNil))) [some (.scr ns), some .st, c2, c3, some (.d sc), some (.d st), c6, c7, none, none, none] G2 = some (.ok (.tuple [.str (Str.ofString "store"), .tuple a, .tuple b]), G2) := fun h1 h2 =>
    mTup_ok (mCons_ok (d := .str (Str.ofString "store")) (G1 := G2) rfl (mCons_ok h1 (mCons_ok h2 mNil_ok))) (by simp)
  have y1 := lc 1 8 (mUn revD (mBor 8)) (fun t => .tuple t.reverse) ts (by omega) x1 fun t => ⟨_, rfl, rfl⟩
  have y2 := lc 2 9 (mUn revD (mBor 9)) (fun t => .tuple t.reverse) os (by omega) x2 fun t => ⟨_, rfl, rfl⟩
  have y3 := lc 1 8 (mSl (mBor 8) (some (Rd.ok (.int 1))) none) (fun t => .tuple (cutD t (some 1) none)) ts (by omega) x1 fun t => ⟨_, rfl, mSl_ok (d := .tuple t) rfl rfl rfl rfl⟩
  obtain ⟨vs, hvs, hv⟩ : ∃ vs : List PyData, (mLst (mCons (mVar 5) (mCons (mTup (mCons (Rd.ok (.str (Str.ofString "store"))) (mCons (mCallB tupF (mCons (mLc (mIt (mOp ixD (mBor 5) (Rd.ok (.int 1)))) (tgN 8) mYes (mUn revD (mBor 8)) [8]) mNil)) (mCons (mOp ixD (mBor 5) (Rd.ok (.int 2))) mNil)))) (mCons (mTup (mCons (Rd.ok (.str (Str.ofString "store"))) (mCons (mOp ixD (mBor 5) (Rd.ok (.int 1))) (mCons (mCallB tupF (mCons (mLc (mIt (mOp ixD (mBor 5) (Rd.ok (.int 2)))) (tgN 9) mYes (mUn revD (mBor 9)) [9]) mNil)) mNil)))) (mCons (mTup (mCons (Rd.ok (.str (Str.ofString "store"))) (mCons (mCallB tupF (mCons (mLc (mIt (mOp ixD (mBor 5) (Rd.ok (.int 1)))) (tgN 8) mYes (mSl (mBor 8) (some (Rd.ok (.int 1))) none) [8]) mNil)) (mCons (mOp ixD (mBor 5) (Rd.ok (.int 2))) mNil)))) mNil))))) [some (.scr ns), some .st, c2, c3, some (.d sc), some (.d st), c6, c7, none, none, none] G2 = some (.ok (.list vs), G2) ∧ vs.length ≤ 4 ∧ ∀ v ∈ vs, Lim 4 v := by
    refine ⟨[st, _, _, _], mLst_ok (mCons_ok (d := st) (G1 := G2) rfl (mCons_ok (tri y1 x2) (mCons_ok (tri x1 y2) (mCons_ok (tri y3 x2) mNil_ok)))) (by simp), by simp, fun v hv => ?_⟩
    have tl : ∀ t ∈ ts, ∀ es : List PyData, es.length ≤ t.length → (∀ e ∈ es, e ∈ t) → Lim 2 (.tuple es) := fun t ht es h1 h2 => lim_sub (ho.t1 t ht).up h1 h2
    have ol : ∀ t ∈ os, ∀ es : List PyData, es.length ≤ t.length → (∀ e ∈ es, e ∈ t) → Lim 2 (.tuple es) := fun t ht es h1 h2 => lim_sub (ho.o1 t ht) h1 h2
    have ml : ∀ (l : List (List PyData)) (h : List PyData → List PyData), l.length ≤ 3 → (∀ t ∈ l, Lim 2 (.tuple (h t))) → (l.map fun t => PyData.tuple (h t)).length ≤ 60 ∧ ∀ d ∈ l.map (fun t => PyData.tuple (h t)), Lim 2 d := fun l h hl hm => ⟨by rw [List.length_map]; omega, fun d hd => by
      obtain ⟨t, ht, rfl⟩ := List.mem_map.mp hd
      exact hm t ht⟩
    simp only [List.mem_cons, List.not_mem_nil, or_false] at hv
    rcases hv with rfl | rfl | rfl | rfl
    · exact sh.lim
    · exact lim_st (ml ts List.reverse (by omega) fun t ht => tl t ht _ (by simp) (by simp)) (ml os id o3 fun t ht => ol t ht _ (Nat.le_refl _) fun e he => he)
    · exact lim_st (ml ts id (by omega) fun t ht => tl t ht _ (Nat.le_refl _) fun e he => he) (ml os List.reverse o3 fun t ht => ol t ht _ (by simp) (by simp))
    · exact lim_st (ml ts (fun t => cutD t (some 1) none) (by omega) fun t ht => tl t ht _ (cut_len _ _ _) fun e he => cut_mem he) (ml os id o3 fun t ht => ol t ht _ (Nat.le_refl _) fun e he => he)
  have s3 := sSet_ok (i := 6) (vF_ok hvs)
  obtain ⟨ys, G3, r1, r2, r3, k3⟩ := lcRun_st (f := tgN 10) (te := (mCallZ f_law_near (aSt 1 (aD (mVar 5) aNil)))) (E := wipeE [some (.scr ns), some .st, c2, c3, some (.d sc), some (.d st), some (.own (.list vs)), c7, none, none, none] [10]) (Lim 4) 20 (ds := (List.range 8).map fun (i : Nat) => PyData.int (i : Int)) (fun d hd => ⟨_, rfl, fun G n hG hn => by
    obtain ⟨v', G', w1, w2, w3⟩ := near_ok sh (by decide) 5 (by decide) hG (by omega)
    exact ⟨v', G', mCallZ_ok (aSt_ok rfl (aD_ok (d := st) (G1 := G) rfl aNil_ok)) w1, w2, w3⟩⟩) k2 (by rw [List.length_map, List.length_range]; omega)
  have l8 : ((List.range 8).map fun (i : Nat) => PyData.int (i : Int)).length = 8 := by simp
  rw [l8] at r2 k3
  have it : mIt (mOp catD (mBor 6) (mLc (mRange1 (Rd.ok (.int 8))) (tgN 10) mYes (mCallZ f_law_near (aSt 1 (aD (mVar 5) aNil))) [10])) [some (.scr ns), some .st, c2, c3, some (.d sc), some (.d st), some (.own (.list vs)), c7, none, none, none] G2 = some (.ok ((vs ++ ys).map id), G3) := by
    rw [List.map_id]
    exact mItL (mOp_ok (a := .list vs) (b := .list ys) (G1 := G2) rfl (mLc_ok (mRange1_ok (n := 8) rfl (by decide)) (by rw [l8]; decide) r1) (catL (by omega)))
  have all : ∀ v ∈ vs ++ ys, Lim 4 v := fun v hv' => by
    rcases List.mem_append.mp hv' with h | h
    · exact hv.2 v h
    · exact r3 v h
  obtain ⟨E', w1, c7', rfl⟩ := (forRun_chk (e := id) (f := tgN 7) (mb := (sIf (mOr (mNot (mT (mCallZ f_law_says (aD (mCallZ f_is_store (aD (mVar 4) (aD (mVar 7) aNil))) (aD (mCallZ f_law_is_store (aD (mVar 4) (aD (mVar 7) aNil))) aNil))))) (mNot (mT (mCallZ f_law_says (aD (mCallKZ f_is_store [1, 0] aNil (aD (mVar 7) (aD (mVar 4) aNil))) (aD (mCallZ f_law_is_store (aD (mVar 4) (aD (mVar 7) aNil))) aNil)))))) (sRet (Rd.ok (.bool false))) sNx)) (p := fun _ => true) (I := fun E => ∃ c7, E = [some (.scr ns), some .st, c2, c3, some (.d sc), some (.d st), some (.own (.list vs)), c7, none, none, none]) (G := G3) (l := vs ++ ys) (by
    rintro v hv' E ⟨c7, rfl⟩
    refine ⟨[some (.scr ns), some .st, c2, c3, some (.d sc), some (.d st), some (.own (.list vs)), some (.d v), none, none, none], rfl, fun _ => ⟨[some (.scr ns), some .st, c2, c3, some (.d sc), some (.d st), some (.own (.list vs)), some (.d v), none, none, none], ?_, _, rfl⟩, fun h => by cases h⟩
    have q1 := p1 v (all v hv') G3
    have q2 := p2 v (all v hv') G3
    have m1 : mCallZ f_is_store (aD (mVar 4) (aD (mVar 7) aNil)) [some (.scr ns), some .st, c2, c3, some (.d sc), some (.d st), some (.own (.list vs)), some (.d v), none, none, none] G3 = some (.ok (.bool (stB S v)), G3) := mCallZ_ok (aD_ok (d := sc) (G1 := G3) rfl (aD_ok (d := v) (G1 := G3) rfl aNil_ok)) q1
    have m2 : mCallZ f_law_is_store (aD (mVar 4) (aD (mVar 7) aNil)) [some (.scr ns), some .st, c2, c3, some (.d sc), some (.d st), some (.own (.list vs)), some (.d v), none, none, none] G3 = some (.ok (.bool (stB S v)), G3) := mCallZ_ok (aD_ok (d := sc) (G1 := G3) rfl (aD_ok (d := v) (G1 := G3) rfl aNil_ok)) q2
    have m3 : mCallKZ f_is_store [1, 0] aNil (aD (mVar 7) (aD (mVar 4) aNil)) [some (.scr ns), some .st, c2, c3, some (.d sc), some (.d st), some (.own (.list vs)), some (.d v), none, none, none] G3 = some (.ok (.bool (stB S v)), G3) := mCallKZ_ok aNil_ok (aD_ok (d := v) (G1 := G3) rfl (aD_ok (d := sc) (G1 := G3) rfl aNil_ok)) q1
    exact (sIf_false (G1 := G3) (mOr_false (mNot_ok (k := true) (mT_ok (mCallZ_ok (aD_ok m1 (aD_ok m2 aNil_ok)) (says_ok _ G3)))) (mNot_ok (k := true) (mT_ok (mCallZ_ok (aD_ok m3 (aD_ok m2 aNil_ok)) (says_ok _ G3)))))).trans rfl) _ ⟨_, rfl⟩).1 (by simp)
  refine ⟨[some (.scr ns), some .st, c2, c3, some (.d sc), some (.d st), some (.own (.list vs)), c7', none, none, none], G3, ?_, ⟨_, _, _, _, _, _, rfl⟩, k3.mono (by omega)⟩
  unfold mTurn59
  refine (sSeq_nx s1).trans ((sSeq_nx s2).trans ((sSeq_nx s3).trans ((sSeq_nx ((sFor_ok it).trans w1)).trans ?_)))
  have z1 : mCallZ f_empty_store (aD (mVar 4) aNil) [some (.scr ns), some .st, c2, c3, some (.d sc), some (.d st), some (.own (.list vs)), c7', none, none, none] G3 = some (.ok (empD S), G3) := mCallZ_ok (aD_ok (d := sc) (G1 := G3) rfl aNil_ok) (p3 G3)
  have z2 : mCallKZ f_empty_store [0] aNil (aD (mVar 4) aNil) [some (.scr ns), some .st, c2, c3, some (.d sc), some (.d st), some (.own (.list vs)), c7', none, none, none] G3 = some (.ok (empD S), G3) := mCallKZ_ok aNil_ok (aD_ok (d := sc) (G1 := G3) rfl aNil_ok) (p3 G3)
  have q1 := p1 _ p6 G3
  rw [p7] at q1
  exact (sIf_false (G1 := G3) (mOr_false (mNot_ok (k := true) (mT_ok (mCallZ_ok (aD_ok z1 (aD_ok (emp rfl) aNil_ok)) (is_ok G3 p5)))) (mT_ok (mOp_ok (a := .bool true) (b := .bool true) (G1 := G3) (mCallZ_ok (aD_ok (d := sc) (G1 := G3) rfl (aD_ok z2 aNil_ok)) q1) rfl rfl)))).trans rfl
theorem tot59 (ns : List Int) (h63 : ns.length ≤ 63) : ∃ G', m_law (lawE 11 1 ns) (begun ns) = some (.ret (.bool true), G') := by
  have a0 : lawE 11 1 ns = [some (.scr ns), some .st, none, none, none, none, none, none, none, none, none] := rfl
  have R0 : Rok 0 (begun ns) := ⟨Int.le_refl 0, Int.le_refl 0⟩
  rw [a0]
  generalize begun ns = G at R0 ⊢
  unfold m_law
  obtain ⟨k, hk, r1⟩ : ∃ k : Nat, k ≤ 20 ∧ ∀ c2 c3 c4 c5 c6 c7, (mRange1 (mOp addD (Rd.ok (.int 6)) (mCallB min2F (mCons (mLenS 0) (mCons (Rd.ok (.int 8)) mNil))))) [some (.scr ns), some .st, c2, c3, c4, c5, c6, c7, none, none, none] G = some (.ok ((List.range k).map fun (i : Nat) => PyData.int (i : Int)), G) := by
    refine ⟨6 + (if (8 : Int) < (ns.length : Int) then 8 else ns.length), by split <;> omega, fun c2 c3 c4 c5 c6 c7 => mRange1_ok (mOp_ok (g := addD) (a := .int 6) (b := .int (if (8 : Int) < (ns.length : Int) then 8 else (ns.length : Int))) (G1 := G) rfl (mCallB_ok (ds := [.int (ns.length : Int), .int 8]) (G1 := G) rfl rfl) ?_) (by split <;> omega)⟩
    split <;> rfl
  have lp : ∀ c2, ∃ E' G', forRun (tgN 3) mTurn59 ((List.range k).map fun (i : Nat) => PyData.int (i : Int)) [some (.scr ns), some .st, c2, none, none, none, none, none, none, none, none] G = some (.nx E', G') := fun c2 => by
    obtain ⟨E', G', f1, _⟩ := for_inv (f := tgN 3) (mb := mTurn59) (ds := (List.range k).map fun (i : Nat) => PyData.int (i : Int)) (k := 0) (E := [some (.scr ns), some .st, c2, none, none, none, none, none, none, none, none]) (G := G)
      (fun i E G => Sh59 ns E ∧ Rok (1000 * i) G) ⟨⟨_, _, _, _, _, _, rfl⟩, R0⟩ fun i x E G hi ⟨hS, hR⟩ => by
        have hik : i < k := by
          have := (List.getElem?_eq_some_iff.mp hi).1
          simpa using this
        have hS' : Sh59 ns (E.set 3 (some (.d x))) := by
          obtain ⟨c2, c3, c4, c5, c6, c7, rfl⟩ := hS
          exact ⟨_, _, _, _, _, _, rfl⟩
        obtain ⟨E', G', b1, b2, b3⟩ := turn59 hS' (by simpa using hR) (by omega)
        exact ⟨_, E', G', rfl, b1, b2, b3.mono (by omega)⟩
    exact ⟨E', G', f1⟩
  generalize htd : PyData.tuple [.str (Str.ofString "schema"), .tuple [.str (Str.ofString "a")], .tuple [.tuple [.str (Str.ofString "likes"), .tuple [.str (Str.ofString "a"), .str (Str.ofString "a")]]]] = td
  obtain ⟨E', G', f1⟩ := lp (some (.d td))
  refine ⟨G', ?_⟩
  refine (sSeq_nx (E1 := [some (.scr ns), some .st, some (.d td), none, none, none, none, none, none, none, none]) (G1 := G) (by rw [← htd]; rfl)).trans ?_
  have t1 : f_is_store [.d td, .d (.tuple [.str (Str.ofString "store"), .tuple [.tuple [.int 0, .int 1]], .tuple [.tuple [.tuple [.int 0, .int 1]]]])] G = some (.ret (.bool true), G) := by
    rw [← htd]
    kernel_rfl
  have t2 : f_is_store [.d td, .d (.tuple [.str (Str.ofString "store"), .tuple [.tuple [.int 0]], .tuple [.tuple [.tuple [.int 0, .int 1]]]])] G = some (.ret (.bool false), G) := by
    rw [← htd]
    kernel_rfl
  have t3 : f_empty_store [.d td] G = some (.ret (.tuple [.str (Str.ofString "store"), .tuple [.tuple []], .tuple [.tuple []]]), G) := by
    rw [← htd]
    kernel_rfl
  refine (sSeq_nx (E1 := [some (.scr ns), some .st, some (.d td), none, none, none, none, none, none, none, none]) (G1 := G) ((sIf_false (G1 := G) (mOr_false (mT_ok (mOp_ok (a := .bool true) (b := .bool true) (G1 := G) (mCallZ_ok (aD_ok (d := td) (G1 := G) rfl (aD_ok (G1 := G) rfl aNil_ok)) t1) rfl rfl)) (mOr_false (mT_ok (mOp_ok (a := .bool false) (b := .bool false) (G1 := G) (mCallZ_ok (aD_ok (d := td) (G1 := G) rfl (aD_ok (G1 := G) rfl aNil_ok)) t2) rfl rfl)) (mT_ok (mOp_ok (a := .tuple [.str (Str.ofString "store"), .tuple [.tuple []], .tuple [.tuple []]]) (b := .tuple [.str (Str.ofString "store"), .tuple [.tuple []], .tuple [.tuple []]]) (G1 := G) (mCallZ_ok (aD_ok (d := td) (G1 := G) rfl aNil_ok) t3) rfl (by kernel_rfl)))))).trans rfl)).trans ?_
  exact (sSeq_nx ((sFor_ok (r1 _ _ _ _ _ _)).trans f1)).trans rfl
end Zd

set_option maxRecDepth 100000
set_option maxHeartbeats 4000000
namespace Zd
open PySem PySem.Spec L2
open PyProof.Rows hiding St
/-! ### what the top has written; the law -/
theorem fin75 {l : PySem.W.OpenLaw} {w : World} {K : PySem.W.Frag} {h : Heap} {mg : Str → Option Value} {fa f0 f1 f2 f3 f4 f5 f6 f7 f8 f9 f10 f11 f12 f13 f14 f15 f16 f17 f18 f19 f20 f21 f22 f23 f24 f25 f26 : Addr} (X : K.In h) (G : h.Ns mainGlobals mg) (hfa : mg (Str.ofString "law") = some (.ref fa))
    {od0 an0 od1 an1 od2 an2 od3 an3 od4 an4 od5 an5 od6 an6 od7 an7 od8 an8 od9 an9 od10 an10 od11 an11 od12 an12 od13 an13 od14 an14 od15 an15 od16 an16 od17 an17 od18 an18 od19 an19 od20 an20 od21 an21 od22 an22 od23 an23 od24 an24 od25 an25 od26 an26 : Option Addr} {sl0 sl1 sl2 sl3 sl4 sl5 sl6 sl7 sl8 sl9 sl10 sl11 sl12 sl13 sl14 sl15 sl16 sl17 sl18 sl19 sl20 sl21 sl22 sl23 sl24 sl25 sl26 : Array (Option Value)} {oc0 kV0 dc0 pm0 cd0 ct0 oc1 kV1 dc1 pm1 cd1 ct1 oc2 kV2 dc2 pm2 cd2 ct2 oc3 kV3 dc3 pm3 cd3 ct3 oc4 kV4 dc4 pm4 cd4 ct4 oc5 kV5 dc5 pm5 cd5 ct5 oc6 kV6 dc6 pm6 cd6 ct6 oc7 kV7 dc7 pm7 cd7 ct7 oc8 kV8 dc8 pm8 cd8 ct8 oc9 kV9 dc9 pm9 cd9 ct9 oc10 kV10 dc10 pm10 cd10 ct10 oc11 kV11 dc11 pm11 cd11 ct11 oc12 kV12 dc12 pm12 cd12 ct12 oc13 kV13 dc13 pm13 cd13 ct13 oc14 kV14 dc14 pm14 cd14 ct14 oc15 kV15 dc15 pm15 cd15 ct15 oc16 kV16 dc16 pm16 cd16 ct16 oc17 kV17 dc17 pm17 cd17 ct17 oc18 kV18 dc18 pm18 cd18 ct18 oc19 kV19 dc19 pm19 cd19 ct19 oc20 kV20 dc20 pm20 cd20 ct20 oc21 kV21 dc21 pm21 cd21 ct21 oc22 kV22 dc22 pm22 cd22 ct22 oc23 kV23 dc23 pm23 cd23 ct23 oc24 kV24 dc24 pm24 cd24 ct24 oc25 kV25 dc25 pm25 cd25 ct25 oc26 kV26 dc26 pm26 cd26 ct26 : Value}
     {kp_KEPT : Addr} {od_KEPT : Option Addr} {it_KEPT : Array Value} {n_KEPT : Nat} {sl_KEPT : Array (Option Value)} {t_LETTERS : Tok} {t_MOST_LETTERS : Tok} {t_MOST_NUMBER : Tok} {t_MOST_PLACES : Tok} {t_MOST_RELATIONS : Tok} {t_MOST_SORTS : Tok}
    (a0 : PySem.W.nsIn K mainGlobals (Str.ofString "is_name") = some (some (.ref f0)))
    (l0 : K.lookup f0 = some ⟨oc0, od0, .func (PySem.W.fnOf (Str.ofString "is_name") (Str.ofString "is_name") (defArgs s_is_name) (defBody s_is_name) (defScope s_is_name) .none kV0 dc0 pm0 an0 cd0 ct0), sl0⟩)
    (c0 : PySem.W.codeIn K cd0 (Str.ofString "is_name") = true) (k0 : PySem.W.keepIn K (.ref f0) = true)
    (a1 : PySem.W.nsIn K mainGlobals (Str.ofString "are_names") = some (some (.ref f1)))
    (l1 : K.lookup f1 = some ⟨oc1, od1, .func (PySem.W.fnOf (Str.ofString "are_names") (Str.ofString "are_names") (defArgs s_are_names) (defBody s_are_names) (defScope s_are_names) .none kV1 dc1 pm1 an1 cd1 ct1), sl1⟩)
    (c1 : PySem.W.codeIn K cd1 (Str.ofString "are_names") = true) (k1 : PySem.W.keepIn K (.ref f1) = true)
    (a2 : PySem.W.nsIn K mainGlobals (Str.ofString "are_rising") = some (some (.ref f2)))
    (l2 : K.lookup f2 = some ⟨oc2, od2, .func (PySem.W.fnOf (Str.ofString "are_rising") (Str.ofString "are_rising") (defArgs s_are_rising) (defBody s_are_rising) (defScope s_are_rising) .none kV2 dc2 pm2 an2 cd2 ct2), sl2⟩)
    (c2 : PySem.W.codeIn K cd2 (Str.ofString "are_rising") = true) (k2 : PySem.W.keepIn K (.ref f2) = true)
    (a3 : PySem.W.nsIn K mainGlobals (Str.ofString "is_relation") = some (some (.ref f3)))
    (l3 : K.lookup f3 = some ⟨oc3, od3, .func (PySem.W.fnOf (Str.ofString "is_relation") (Str.ofString "is_relation") (defArgs s_is_relation) (defBody s_is_relation) (defScope s_is_relation) .none kV3 dc3 pm3 an3 cd3 ct3), sl3⟩)
    (c3 : PySem.W.codeIn K cd3 (Str.ofString "is_relation") = true) (k3 : PySem.W.keepIn K (.ref f3) = true)
    (a4 : PySem.W.nsIn K mainGlobals (Str.ofString "is_schema") = some (some (.ref f4)))
    (l4 : K.lookup f4 = some ⟨oc4, od4, .func (PySem.W.fnOf (Str.ofString "is_schema") (Str.ofString "is_schema") (defArgs s_is_schema) (defBody s_is_schema) (defScope s_is_schema) .none kV4 dc4 pm4 an4 cd4 ct4), sl4⟩)
    (c4 : PySem.W.codeIn K cd4 (Str.ofString "is_schema") = true) (k4 : PySem.W.keepIn K (.ref f4) = true)
    (a5 : PySem.W.nsIn K mainGlobals (Str.ofString "need_schema") = some (some (.ref f5)))
    (l5 : K.lookup f5 = some ⟨oc5, od5, .func (PySem.W.fnOf (Str.ofString "need_schema") (Str.ofString "need_schema") (defArgs s_need_schema) (defBody s_need_schema) (defScope s_need_schema) .none kV5 dc5 pm5 an5 cd5 ct5), sl5⟩)
    (c5 : PySem.W.codeIn K cd5 (Str.ofString "need_schema") = true) (k5 : PySem.W.keepIn K (.ref f5) = true)
    (a6 : PySem.W.nsIn K mainGlobals (Str.ofString "is_number") = some (some (.ref f6)))
    (l6 : K.lookup f6 = some ⟨oc6, od6, .func (PySem.W.fnOf (Str.ofString "is_number") (Str.ofString "is_number") (defArgs s_is_number) (defBody s_is_number) (defScope s_is_number) .none kV6 dc6 pm6 an6 cd6 ct6), sl6⟩)
    (c6 : PySem.W.codeIn K cd6 (Str.ofString "is_number") = true) (k6 : PySem.W.keepIn K (.ref f6) = true)
    (a7 : PySem.W.nsIn K mainGlobals (Str.ofString "are_things") = some (some (.ref f7)))
    (l7 : K.lookup f7 = some ⟨oc7, od7, .func (PySem.W.fnOf (Str.ofString "are_things") (Str.ofString "are_things") (defArgs s_are_things) (defBody s_are_things) (defScope s_are_things) .none kV7 dc7 pm7 an7 cd7 ct7), sl7⟩)
    (c7 : PySem.W.codeIn K cd7 (Str.ofString "are_things") = true) (k7 : PySem.W.keepIn K (.ref f7) = true)
    (a8 : PySem.W.nsIn K mainGlobals (Str.ofString "is_row_of") = some (some (.ref f8)))
    (l8 : K.lookup f8 = some ⟨oc8, od8, .func (PySem.W.fnOf (Str.ofString "is_row_of") (Str.ofString "is_row_of") (defArgs s_is_row_of) (defBody s_is_row_of) (defScope s_is_row_of) .none kV8 dc8 pm8 an8 cd8 ct8), sl8⟩)
    (c8 : PySem.W.codeIn K cd8 (Str.ofString "is_row_of") = true) (k8 : PySem.W.keepIn K (.ref f8) = true)
    (a9 : PySem.W.nsIn K mainGlobals (Str.ofString "things_by_sort") = some (some (.ref f9)))
    (l9 : K.lookup f9 = some ⟨oc9, od9, .func (PySem.W.fnOf (Str.ofString "things_by_sort") (Str.ofString "things_by_sort") (defArgs s_things_by_sort) (defBody s_things_by_sort) (defScope s_things_by_sort) .none kV9 dc9 pm9 an9 cd9 ct9), sl9⟩)
    (c9 : PySem.W.codeIn K cd9 (Str.ofString "things_by_sort") = true) (k9 : PySem.W.keepIn K (.ref f9) = true)
    (a10 : PySem.W.nsIn K mainGlobals (Str.ofString "is_store") = some (some (.ref f10)))
    (l10 : K.lookup f10 = some ⟨oc10, od10, .func (PySem.W.fnOf (Str.ofString "is_store") (Str.ofString "is_store") (defArgs s_is_store) (defBody s_is_store) (defScope s_is_store) .none kV10 dc10 pm10 an10 cd10 ct10), sl10⟩)
    (c10 : PySem.W.codeIn K cd10 (Str.ofString "is_store") = true) (k10 : PySem.W.keepIn K (.ref f10) = true)
    (a11 : PySem.W.nsIn K mainGlobals (Str.ofString "empty_store") = some (some (.ref f11)))
    (l11 : K.lookup f11 = some ⟨oc11, od11, .func (PySem.W.fnOf (Str.ofString "empty_store") (Str.ofString "empty_store") (defArgs s_empty_store) (defBody s_empty_store) (defScope s_empty_store) .none kV11 dc11 pm11 an11 cd11 ct11), sl11⟩)
    (c11 : PySem.W.codeIn K cd11 (Str.ofString "empty_store") = true) (k11 : PySem.W.keepIn K (.ref f11) = true)
    (a12 : PySem.W.nsIn K mainGlobals (Str.ofString "_law_begun") = some (some (.ref f12)))
    (l12 : K.lookup f12 = some ⟨oc12, od12, .func (PySem.W.fnOf (Str.ofString "_law_begun") (Str.ofString "_law_begun") (defArgs s_law_begun) (defBody s_law_begun) (defScope s_law_begun) .none kV12 dc12 pm12 an12 cd12 ct12), sl12⟩)
    (c12 : PySem.W.codeIn K cd12 (Str.ofString "_law_begun") = true) (k12 : PySem.W.keepIn K (.ref f12) = true)
    (a13 : PySem.W.nsIn K mainGlobals (Str.ofString "_law_mixed") = some (some (.ref f13)))
    (l13 : K.lookup f13 = some ⟨oc13, od13, .func (PySem.W.fnOf (Str.ofString "_law_mixed") (Str.ofString "_law_mixed") (defArgs s_law_mixed) (defBody s_law_mixed) (defScope s_law_mixed) .none kV13 dc13 pm13 an13 cd13 ct13), sl13⟩)
    (c13 : PySem.W.codeIn K cd13 (Str.ofString "_law_mixed") = true) (k13 : PySem.W.keepIn K (.ref f13) = true)
    (a14 : PySem.W.nsIn K mainGlobals (Str.ofString "_law_draw") = some (some (.ref f14)))
    (l14 : K.lookup f14 = some ⟨oc14, od14, .func (PySem.W.fnOf (Str.ofString "_law_draw") (Str.ofString "_law_draw") (defArgs s_law_draw) (defBody s_law_draw) (defScope s_law_draw) .none kV14 dc14 pm14 an14 cd14 ct14), sl14⟩)
    (c14 : PySem.W.codeIn K cd14 (Str.ofString "_law_draw") = true) (k14 : PySem.W.keepIn K (.ref f14) = true)
    (a15 : PySem.W.nsIn K mainGlobals (Str.ofString "_law_pick") = some (some (.ref f15)))
    (l15 : K.lookup f15 = some ⟨oc15, od15, .func (PySem.W.fnOf (Str.ofString "_law_pick") (Str.ofString "_law_pick") (defArgs s_law_pick) (defBody s_law_pick) (defScope s_law_pick) .none kV15 dc15 pm15 an15 cd15 ct15), sl15⟩)
    (c15 : PySem.W.codeIn K cd15 (Str.ofString "_law_pick") = true) (k15 : PySem.W.keepIn K (.ref f15) = true)
    (a16 : PySem.W.nsIn K mainGlobals (Str.ofString "_law_shuffled") = some (some (.ref f16)))
    (l16 : K.lookup f16 = some ⟨oc16, od16, .func (PySem.W.fnOf (Str.ofString "_law_shuffled") (Str.ofString "_law_shuffled") (defArgs s_law_shuffled) (defBody s_law_shuffled) (defScope s_law_shuffled) .none kV16 dc16 pm16 an16 cd16 ct16), sl16⟩)
    (c16 : PySem.W.codeIn K cd16 (Str.ofString "_law_shuffled") = true) (k16 : PySem.W.keepIn K (.ref f16) = true)
    (a17 : PySem.W.nsIn K mainGlobals (Str.ofString "_law_plain") = some (some (.ref f17)))
    (l17 : K.lookup f17 = some ⟨oc17, od17, .func (PySem.W.fnOf (Str.ofString "_law_plain") (Str.ofString "_law_plain") (defArgs s_law_plain) (defBody s_law_plain) (defScope s_law_plain) .none kV17 dc17 pm17 an17 cd17 ct17), sl17⟩)
    (c17 : PySem.W.codeIn K cd17 (Str.ofString "_law_plain") = true) (k17 : PySem.W.keepIn K (.ref f17) = true)
    (a18 : PySem.W.nsIn K mainGlobals (Str.ofString "_law_is") = some (some (.ref f18)))
    (l18 : K.lookup f18 = some ⟨oc18, od18, .func (PySem.W.fnOf (Str.ofString "_law_is") (Str.ofString "_law_is") (defArgs s_law_is) (defBody s_law_is) (defScope s_law_is) .none kV18 dc18 pm18 an18 cd18 ct18), sl18⟩)
    (c18 : PySem.W.codeIn K cd18 (Str.ofString "_law_is") = true) (k18 : PySem.W.keepIn K (.ref f18) = true)
    (a19 : PySem.W.nsIn K mainGlobals (Str.ofString "_law_says") = some (some (.ref f19)))
    (l19 : K.lookup f19 = some ⟨oc19, od19, .func (PySem.W.fnOf (Str.ofString "_law_says") (Str.ofString "_law_says") (defArgs s_law_says) (defBody s_law_says) (defScope s_law_says) .none kV19 dc19 pm19 an19 cd19 ct19), sl19⟩)
    (c19 : PySem.W.codeIn K cd19 (Str.ofString "_law_says") = true) (k19 : PySem.W.keepIn K (.ref f19) = true)
    (a20 : PySem.W.nsIn K mainGlobals (Str.ofString "_law_schema") = some (some (.ref f20)))
    (l20 : K.lookup f20 = some ⟨oc20, od20, .func (PySem.W.fnOf (Str.ofString "_law_schema") (Str.ofString "_law_schema") (defArgs s_law_schema) (defBody s_law_schema) (defScope s_law_schema) .none kV20 dc20 pm20 an20 cd20 ct20), sl20⟩)
    (c20 : PySem.W.codeIn K cd20 (Str.ofString "_law_schema") = true) (k20 : PySem.W.keepIn K (.ref f20) = true)
    (a21 : PySem.W.nsIn K mainGlobals (Str.ofString "_law_tuples") = some (some (.ref f21)))
    (l21 : K.lookup f21 = some ⟨oc21, od21, .func (PySem.W.fnOf (Str.ofString "_law_tuples") (Str.ofString "_law_tuples") (defArgs s_law_tuples) (defBody s_law_tuples) (defScope s_law_tuples) .none kV21 dc21 pm21 an21 cd21 ct21), sl21⟩)
    (c21 : PySem.W.codeIn K cd21 (Str.ofString "_law_tuples") = true) (k21 : PySem.W.keepIn K (.ref f21) = true)
    (a22 : PySem.W.nsIn K mainGlobals (Str.ofString "_law_store") = some (some (.ref f22)))
    (l22 : K.lookup f22 = some ⟨oc22, od22, .func (PySem.W.fnOf (Str.ofString "_law_store") (Str.ofString "_law_store") (defArgs s_law_store) (defBody s_law_store) (defScope s_law_store) .none kV22 dc22 pm22 an22 cd22 ct22), sl22⟩)
    (c22 : PySem.W.codeIn K cd22 (Str.ofString "_law_store") = true) (k22 : PySem.W.keepIn K (.ref f22) = true)
    (a23 : PySem.W.nsIn K mainGlobals (Str.ofString "_law_near") = some (some (.ref f23)))
    (l23 : K.lookup f23 = some ⟨oc23, od23, .func (PySem.W.fnOf (Str.ofString "_law_near") (Str.ofString "_law_near") (defArgs s_law_near) (defBody s_law_near) (defScope s_law_near) .none kV23 dc23 pm23 an23 cd23 ct23), sl23⟩)
    (c23 : PySem.W.codeIn K cd23 (Str.ofString "_law_near") = true) (k23 : PySem.W.keepIn K (.ref f23) = true)
    (a24 : PySem.W.nsIn K mainGlobals (Str.ofString "_law_are_numbers") = some (some (.ref f24)))
    (l24 : K.lookup f24 = some ⟨oc24, od24, .func (PySem.W.fnOf (Str.ofString "_law_are_numbers") (Str.ofString "_law_are_numbers") (defArgs s_law_are_numbers) (defBody s_law_are_numbers) (defScope s_law_are_numbers) .none kV24 dc24 pm24 an24 cd24 ct24), sl24⟩)
    (c24 : PySem.W.codeIn K cd24 (Str.ofString "_law_are_numbers") = true) (k24 : PySem.W.keepIn K (.ref f24) = true)
    (a25 : PySem.W.nsIn K mainGlobals (Str.ofString "_law_is_store") = some (some (.ref f25)))
    (l25 : K.lookup f25 = some ⟨oc25, od25, .func (PySem.W.fnOf (Str.ofString "_law_is_store") (Str.ofString "_law_is_store") (defArgs s_law_is_store) (defBody s_law_is_store) (defScope s_law_is_store) .none kV25 dc25 pm25 an25 cd25 ct25), sl25⟩)
    (c25 : PySem.W.codeIn K cd25 (Str.ofString "_law_is_store") = true) (k25 : PySem.W.keepIn K (.ref f25) = true)
    (a26 : PySem.W.nsIn K mainGlobals (Str.ofString "law") = some (some (.ref f26)))
    (l26 : K.lookup f26 = some ⟨oc26, od26, .func (PySem.W.fnOf (Str.ofString "law") (Str.ofString "law") (defArgs s_law) (defBody s_law) (defScope s_law) .none kV26 dc26 pm26 an26 cd26 ct26), sl26⟩)
    (c26 : PySem.W.codeIn K cd26 (Str.ofString "law") = true) (k26 : PySem.W.keepIn K (.ref f26) = true)
    (z_abs : PySem.W.nsIn K mainGlobals (Str.ofString "abs") = some none)
    (z_all : PySem.W.nsIn K mainGlobals (Str.ofString "all") = some none)
    (z_bool : PySem.W.nsIn K mainGlobals (Str.ofString "bool") = some none)
    (z_dict : PySem.W.nsIn K mainGlobals (Str.ofString "dict") = some none)
    (z_int : PySem.W.nsIn K mainGlobals (Str.ofString "int") = some none)
    (z_isinstance : PySem.W.nsIn K mainGlobals (Str.ofString "isinstance") = some none)
    (z_len : PySem.W.nsIn K mainGlobals (Str.ofString "len") = some none)
    (z_list : PySem.W.nsIn K mainGlobals (Str.ofString "list") = some none)
    (z_min : PySem.W.nsIn K mainGlobals (Str.ofString "min") = some none)
    (z_range : PySem.W.nsIn K mainGlobals (Str.ofString "range") = some none)
    (z_repr : PySem.W.nsIn K mainGlobals (Str.ofString "repr") = some none)
    (z_sorted : PySem.W.nsIn K mainGlobals (Str.ofString "sorted") = some none)
    (z_str : PySem.W.nsIn K mainGlobals (Str.ofString "str") = some none)
    (z_tuple : PySem.W.nsIn K mainGlobals (Str.ofString "tuple") = some none)
    (z_zip : PySem.W.nsIn K mainGlobals (Str.ofString "zip") = some none)
    (b_KEPT : PySem.W.nsIn K mainGlobals (Str.ofString "KEPT") = some (some (.ref kp_KEPT)))
    (l_KEPT : K.lookup kp_KEPT = some ⟨.type "tuple", od_KEPT, .seq it_KEPT n_KEPT, sl_KEPT⟩)
    (v_KEPT : strsB cst_KEPT it_KEPT.toList = true)
    (b_LETTERS : PySem.W.nsIn K mainGlobals (Str.ofString "LETTERS") = some (some (.str (Str.ofString "abcdefghijklmnopqrstuvwxyz") t_LETTERS)))
    (b_MOST_LETTERS : PySem.W.nsIn K mainGlobals (Str.ofString "MOST_LETTERS") = some (some (.int 8 t_MOST_LETTERS)))
    (b_MOST_NUMBER : PySem.W.nsIn K mainGlobals (Str.ofString "MOST_NUMBER") = some (some (.int 999 t_MOST_NUMBER)))
    (b_MOST_PLACES : PySem.W.nsIn K mainGlobals (Str.ofString "MOST_PLACES") = some (some (.int 2 t_MOST_PLACES)))
    (b_MOST_RELATIONS : PySem.W.nsIn K mainGlobals (Str.ofString "MOST_RELATIONS") = some (some (.int 4 t_MOST_RELATIONS)))
    (b_MOST_SORTS : PySem.W.nsIn K mainGlobals (Str.ofString "MOST_SORTS") = some (some (.int 2 t_MOST_SORTS)))
    : ∃ fd : FuncData, (∀ (s : Shared) (u : Value), BindsTo s fd ⟨[u], []⟩ [(Str.ofString "script", u)]) ∧ ∀ base : Heap, K.In base → base.Ns mainGlobals mg → FnG l.prog w K mg base CX0 10 fa fd [Str.ofString "script"] (spLaw K) := by
  have e := hfa.symm.trans (PySem.W.mg_of X G a26)
  cases e
  have g_abs := PySem.W.mg_none_of X G z_abs
  have g_all := PySem.W.mg_none_of X G z_all
  have g_bool := PySem.W.mg_none_of X G z_bool
  have g_dict := PySem.W.mg_none_of X G z_dict
  have g_int := PySem.W.mg_none_of X G z_int
  have g_isinstance := PySem.W.mg_none_of X G z_isinstance
  have g_len := PySem.W.mg_none_of X G z_len
  have g_list := PySem.W.mg_none_of X G z_list
  have g_min := PySem.W.mg_none_of X G z_min
  have g_range := PySem.W.mg_none_of X G z_range
  have g_repr := PySem.W.mg_none_of X G z_repr
  have g_sorted := PySem.W.mg_none_of X G z_sorted
  have g_str := PySem.W.mg_none_of X G z_str
  have g_tuple := PySem.W.mg_none_of X G z_tuple
  have g_zip := PySem.W.mg_none_of X G z_zip
  have c_KEPT : KTs K mg (Str.ofString "KEPT") cst_KEPT := kts_of (PySem.W.mg_of X G b_KEPT) l_KEPT (by decide) v_KEPT
  have c_LETTERS := (⟨_, PySem.W.mg_of X G b_LETTERS, ⟨_, rfl⟩⟩ : ∃ u, mg (Str.ofString "LETTERS") = some u ∧ RelV (.str (Str.ofString "abcdefghijklmnopqrstuvwxyz")) u)
  have c_MOST_LETTERS := (⟨_, PySem.W.mg_of X G b_MOST_LETTERS, ⟨_, rfl⟩⟩ : ∃ u, mg (Str.ofString "MOST_LETTERS") = some u ∧ RelV (.int 8) u)
  have c_MOST_NUMBER := (⟨_, PySem.W.mg_of X G b_MOST_NUMBER, ⟨_, rfl⟩⟩ : ∃ u, mg (Str.ofString "MOST_NUMBER") = some u ∧ RelV (.int 999) u)
  have c_MOST_PLACES := (⟨_, PySem.W.mg_of X G b_MOST_PLACES, ⟨_, rfl⟩⟩ : ∃ u, mg (Str.ofString "MOST_PLACES") = some u ∧ RelV (.int 2) u)
  have c_MOST_RELATIONS := (⟨_, PySem.W.mg_of X G b_MOST_RELATIONS, ⟨_, rfl⟩⟩ : ∃ u, mg (Str.ofString "MOST_RELATIONS") = some u ∧ RelV (.int 4) u)
  have c_MOST_SORTS := (⟨_, PySem.W.mg_of X G b_MOST_SORTS, ⟨_, rfl⟩⟩ : ∃ u, mg (Str.ofString "MOST_SORTS") = some u ∧ RelV (.int 2) u)
  have F0 := fun_mk (st := s_is_name) l0 c0 k0
  have m0 := PySem.W.mg_of X G a0
  have b0 := F0.binds (ps := [(Str.ofString "thing")]) fun _ _ _ _ _ _ us hl => match us, hl with | [_], _ => rfl
  have F1 := fun_mk (st := s_are_names) l1 c1 k1
  have m1 := PySem.W.mg_of X G a1
  have b1 := F1.binds (ps := [(Str.ofString "thing"), (Str.ofString "most")]) fun _ _ _ _ _ _ us hl => match us, hl with | [_, _], _ => rfl
  have F2 := fun_mk (st := s_are_rising) l2 c2 k2
  have m2 := PySem.W.mg_of X G a2
  have b2 := F2.binds (ps := [(Str.ofString "some")]) fun _ _ _ _ _ _ us hl => match us, hl with | [_], _ => rfl
  have F3 := fun_mk (st := s_is_relation) l3 c3 k3
  have m3 := PySem.W.mg_of X G a3
  have b3 := F3.binds (ps := [(Str.ofString "sorts"), (Str.ofString "thing")]) fun _ _ _ _ _ _ us hl => match us, hl with | [_, _], _ => rfl
  have F4 := fun_mk (st := s_is_schema) l4 c4 k4
  have m4 := PySem.W.mg_of X G a4
  have b4 := F4.binds (ps := [(Str.ofString "thing")]) fun _ _ _ _ _ _ us hl => match us, hl with | [_], _ => rfl
  have F5 := fun_mk (st := s_need_schema) l5 c5 k5
  have m5 := PySem.W.mg_of X G a5
  have b5 := F5.binds (ps := [(Str.ofString "schema")]) fun _ _ _ _ _ _ us hl => match us, hl with | [_], _ => rfl
  have F6 := fun_mk (st := s_is_number) l6 c6 k6
  have m6 := PySem.W.mg_of X G a6
  have b6 := F6.binds (ps := [(Str.ofString "thing")]) fun _ _ _ _ _ _ us hl => match us, hl with | [_], _ => rfl
  have F7 := fun_mk (st := s_are_things) l7 c7 k7
  have m7 := PySem.W.mg_of X G a7
  have b7 := F7.binds (ps := [(Str.ofString "thing")]) fun _ _ _ _ _ _ us hl => match us, hl with | [_], _ => rfl
  have F8 := fun_mk (st := s_is_row_of) l8 c8 k8
  have m8 := PySem.W.mg_of X G a8
  have b8 := F8.binds (ps := [(Str.ofString "kinds"), (Str.ofString "places"), (Str.ofString "thing")]) fun _ _ _ _ _ _ us hl => match us, hl with | [_, _, _], _ => rfl
  have F9 := fun_mk (st := s_things_by_sort) l9 c9 k9
  have m9 := PySem.W.mg_of X G a9
  have b9 := F9.binds (ps := [(Str.ofString "schema"), (Str.ofString "store")]) fun _ _ _ _ _ _ us hl => match us, hl with | [_, _], _ => rfl
  have F10 := fun_mk (st := s_is_store) l10 c10 k10
  have m10 := PySem.W.mg_of X G a10
  have b10 := F10.binds (ps := [(Str.ofString "schema"), (Str.ofString "thing")]) fun _ _ _ _ _ _ us hl => match us, hl with | [_, _], _ => rfl
  have F11 := fun_mk (st := s_empty_store) l11 c11 k11
  have m11 := PySem.W.mg_of X G a11
  have b11 := F11.binds (ps := [(Str.ofString "schema")]) fun _ _ _ _ _ _ us hl => match us, hl with | [_], _ => rfl
  have F12 := fun_mk (st := s_law_begun) l12 c12 k12
  have m12 := PySem.W.mg_of X G a12
  have b12 := F12.binds (ps := [(Str.ofString "script")]) fun _ _ _ _ _ _ us hl => match us, hl with | [_], _ => rfl
  have F13 := fun_mk (st := s_law_mixed) l13 c13 k13
  have m13 := PySem.W.mg_of X G a13
  have b13 := F13.binds (ps := [(Str.ofString "state")]) fun _ _ _ _ _ _ us hl => match us, hl with | [_], _ => rfl
  have F14 := fun_mk (st := s_law_draw) l14 c14 k14
  have m14 := PySem.W.mg_of X G a14
  have b14 := F14.binds (ps := [(Str.ofString "state"), (Str.ofString "room")]) fun _ _ _ _ _ _ us hl => match us, hl with | [_, _], _ => rfl
  have F15 := fun_mk (st := s_law_pick) l15 c15 k15
  have m15 := PySem.W.mg_of X G a15
  have b15 := F15.binds (ps := [(Str.ofString "state"), (Str.ofString "some")]) fun _ _ _ _ _ _ us hl => match us, hl with | [_, _], _ => rfl
  have F16 := fun_mk (st := s_law_shuffled) l16 c16 k16
  have m16 := PySem.W.mg_of X G a16
  have b16 := F16.binds (ps := [(Str.ofString "state"), (Str.ofString "some")]) fun _ _ _ _ _ _ us hl => match us, hl with | [_, _], _ => rfl
  have F17 := fun_mk (st := s_law_plain) l17 c17 k17
  have m17 := PySem.W.mg_of X G a17
  have b17 := F17.binds (ps := [(Str.ofString "value")]) fun _ _ _ _ _ _ us hl => match us, hl with | [_], _ => rfl
  have F18 := fun_mk (st := s_law_is) l18 c18 k18
  have m18 := PySem.W.mg_of X G a18
  have b18 := F18.binds (ps := [(Str.ofString "found"), (Str.ofString "due")]) fun _ _ _ _ _ _ us hl => match us, hl with | [_, _], _ => rfl
  have F19 := fun_mk (st := s_law_says) l19 c19 k19
  have m19 := PySem.W.mg_of X G a19
  have b19 := F19.binds (ps := [(Str.ofString "found"), (Str.ofString "is_due")]) fun _ _ _ _ _ _ us hl => match us, hl with | [_, _], _ => rfl
  have F20 := fun_mk (st := s_law_schema) l20 c20 k20
  have m20 := PySem.W.mg_of X G a20
  have b20 := F20.binds (ps := [(Str.ofString "state")]) fun _ _ _ _ _ _ us hl => match us, hl with | [_], _ => rfl
  have F21 := fun_mk (st := s_law_tuples) l21 c21 k21
  have m21 := PySem.W.mg_of X G a21
  have b21 := F21.binds (ps := [(Str.ofString "lots")]) fun _ _ _ _ _ _ us hl => match us, hl with | [_], _ => rfl
  have F22 := fun_mk (st := s_law_store) l22 c22 k22
  have m22 := PySem.W.mg_of X G a22
  have b22 := F22.binds (ps := [(Str.ofString "state"), (Str.ofString "schema"), (Str.ofString "most")]) fun _ _ _ _ _ _ us hl => match us, hl with | [_, _, _], _ => rfl
  have F23 := fun_mk (st := s_law_near) l23 c23 k23
  have m23 := PySem.W.mg_of X G a23
  have b23 := F23.binds (ps := [(Str.ofString "state"), (Str.ofString "value")]) fun _ _ _ _ _ _ us hl => match us, hl with | [_, _], _ => rfl
  have F24 := fun_mk (st := s_law_are_numbers) l24 c24 k24
  have m24 := PySem.W.mg_of X G a24
  have b24 := F24.binds (ps := [(Str.ofString "thing")]) fun _ _ _ _ _ _ us hl => match us, hl with | [_], _ => rfl
  have F25 := fun_mk (st := s_law_is_store) l25 c25 k25
  have m25 := PySem.W.mg_of X G a25
  have b25 := F25.binds (ps := [(Str.ofString "schema"), (Str.ofString "thing")]) fun _ _ _ _ _ _ us hl => match us, hl with | [_, _], _ => rfl
  have F26 := fun_mk (st := s_law) l26 c26 k26
  refine ⟨PySem.W.fnOf (Str.ofString "law") (Str.ofString "law") (defArgs s_law) (defBody s_law) (defScope s_law) .none kV26 dc26 pm26 an26 cd26 ct26, fun s v => .of_eq rfl, fun base _ _ => ?_⟩
  have W0 : FnG l.prog w K mg base CX0 1 f0 _ _ (Prom K mg 1 f_is_name) := ok_is_name F0 g_all g_isinstance g_len g_str c_KEPT c_LETTERS c_MOST_LETTERS
  have k_is_name : Kn l.prog w K mg base 1 (Str.ofString "is_name") 1 f_is_name := ⟨f0, _, _, W0, m0, F0.kp, b0, rfl⟩
  have W1 : FnG l.prog w K mg base CX0 2 f1 _ _ (Prom K mg 2 f_are_names) := ok_are_names F1 g_all g_isinstance g_len g_tuple k_is_name
  have k_are_names : Kn l.prog w K mg base 2 (Str.ofString "are_names") 2 f_are_names := ⟨f1, _, _, W1, m1, F1.kp, b1, rfl⟩
  have W2 : FnG l.prog w K mg base CX0 1 f2 _ _ (Prom K mg 1 f_are_rising) := ok_are_rising F2 g_all g_len g_range
  have k_are_rising : Kn l.prog w K mg base 1 (Str.ofString "are_rising") 1 f_are_rising := ⟨f2, _, _, W2, m2, F2.kp, b2, rfl⟩
  have W3 : FnG l.prog w K mg base CX0 3 f3 _ _ (Prom K mg 2 f_is_relation) := ok_is_relation F3 g_all g_isinstance g_len g_tuple c_MOST_PLACES k_are_names k_is_name
  have k_is_relation : Kn l.prog w K mg base 3 (Str.ofString "is_relation") 2 f_is_relation := ⟨f3, _, _, W3, m3, F3.kp, b3, rfl⟩
  have W4 : FnG l.prog w K mg base CX0 4 f4 _ _ (Prom K mg 1 f_is_schema) := ok_is_schema F4 g_all g_isinstance g_len g_str g_tuple c_MOST_RELATIONS c_MOST_SORTS k_are_names k_are_rising k_is_relation
  have k_is_schema : Kn l.prog w K mg base 4 (Str.ofString "is_schema") 1 f_is_schema := ⟨f4, _, _, W4, m4, F4.kp, b4, rfl⟩
  have W5 : FnG l.prog w K mg base CX0 5 f5 _ _ (Prom K mg 1 f_need_schema) := ok_need_schema F5 k_is_schema
  have k_need_schema : Kn l.prog w K mg base 5 (Str.ofString "need_schema") 1 f_need_schema := ⟨f5, _, _, W5, m5, F5.kp, b5, rfl⟩
  have W6 : FnG l.prog w K mg base CX0 1 f6 _ _ (Prom K mg 1 f_is_number) := ok_is_number F6 g_bool g_int g_isinstance c_MOST_NUMBER
  have k_is_number : Kn l.prog w K mg base 1 (Str.ofString "is_number") 1 f_is_number := ⟨f6, _, _, W6, m6, F6.kp, b6, rfl⟩
  have W7 : FnG l.prog w K mg base CX0 2 f7 _ _ (Prom K mg 1 f_are_things) := ok_are_things F7 g_all g_isinstance g_tuple k_are_rising k_is_number
  have k_are_things : Kn l.prog w K mg base 2 (Str.ofString "are_things") 1 f_are_things := ⟨f7, _, _, W7, m7, F7.kp, b7, rfl⟩
  have W8 : FnG l.prog w K mg base CX0 2 f8 _ _ (Prom K mg 3 f_is_row_of) := ok_is_row_of F8 g_all g_isinstance g_len g_tuple g_zip k_is_number
  have k_is_row_of : Kn l.prog w K mg base 2 (Str.ofString "is_row_of") 3 f_is_row_of := ⟨f8, _, _, W8, m8, F8.kp, b8, rfl⟩
  have W9 : FnG l.prog w K mg base CX0 1 f9 _ _ (Prom K mg 2 f_things_by_sort) := ok_things_by_sort F9 g_zip
  have k_things_by_sort : Kn l.prog w K mg base 1 (Str.ofString "things_by_sort") 2 f_things_by_sort := ⟨f9, _, _, W9, m9, F9.kp, b9, rfl⟩
  have W10 : FnG l.prog w K mg base CX0 6 f10 _ _ (Prom K mg 2 f_is_store) := ok_is_store F10 g_all g_isinstance g_len g_str g_tuple g_zip k_are_rising k_are_things k_is_row_of k_need_schema k_things_by_sort
  have k_is_store : Kn l.prog w K mg base 6 (Str.ofString "is_store") 2 f_is_store := ⟨f10, _, _, W10, m10, F10.kp, b10, rfl⟩
  have kk_is_store_0_thing_schema : KnK l.prog w K mg base 6 (Str.ofString "is_store") 2 0 [(Str.ofString "thing"), (Str.ofString "schema")] [1, 0] f_is_store := ⟨f10, _, _, W10, m10, F10.kp, fun s us ws _ h1 h2 => (match us, ws, h1, h2 with | [], [_, _], _, _ => .of_eq rfl), rfl⟩
  have W11 : FnG l.prog w K mg base CX0 6 f11 _ _ (Prom K mg 1 f_empty_store) := ok_empty_store F11 g_len k_need_schema
  have k_empty_store : Kn l.prog w K mg base 6 (Str.ofString "empty_store") 1 f_empty_store := ⟨f11, _, _, W11, m11, F11.kp, b11, rfl⟩
  have kk_empty_store_0_schema : KnK l.prog w K mg base 6 (Str.ofString "empty_store") 1 0 [(Str.ofString "schema")] [0] f_empty_store := ⟨f11, _, _, W11, m11, F11.kp, fun s us ws _ h1 h2 => (match us, ws, h1, h2 with | [], [_], _, _ => .of_eq rfl), rfl⟩
  have W12 : FnG l.prog w K mg base CX0 1 f12 _ _ (spBegun K) := ok_law_begun F12 g_abs
  have W13 : FnG l.prog w K mg base CX0 1 f13 _ _ (Prom K mg 1 f_law_mixed) := ok_law_mixed F13 g_int
  have k_law_mixed : Kn l.prog w K mg base 1 (Str.ofString "_law_mixed") 1 f_law_mixed := ⟨f13, _, _, W13, m13, F13.kp, b13, rfl⟩
  have W14 : FnG l.prog w K mg base CX0 2 f14 _ _ (Prom K mg 2 f_law_draw) := ok_law_draw F14 g_int k_law_mixed
  have k_law_draw : Kn l.prog w K mg base 2 (Str.ofString "_law_draw") 2 f_law_draw := ⟨f14, _, _, W14, m14, F14.kp, b14, rfl⟩
  have W15 : FnG l.prog w K mg base CX0 3 f15 _ _ (Prom K mg 2 f_law_pick) := ok_law_pick F15 g_len k_law_draw
  have k_law_pick : Kn l.prog w K mg base 3 (Str.ofString "_law_pick") 2 f_law_pick := ⟨f15, _, _, W15, m15, F15.kp, b15, rfl⟩
  have W16 : FnG l.prog w K mg base CX0 3 f16 _ _ (Prom K mg 2 f_law_shuffled) := ok_law_shuffled F16 g_len g_list k_law_draw
  have k_law_shuffled : Kn l.prog w K mg base 3 (Str.ofString "_law_shuffled") 2 f_law_shuffled := ⟨f16, _, _, W16, m16, F16.kp, b16, rfl⟩
  have W17 : FnG l.prog w K mg base CX0 7 f17 _ _ (Prom K mg 1 f_law_plain) := ok_law_plain F17 g_dict g_int g_isinstance g_list g_str g_tuple m17 6
  have k_law_plain : Kn l.prog w K mg base 7 (Str.ofString "_law_plain") 1 f_law_plain := ⟨f17, _, _, W17, m17, F17.kp, b17, rfl⟩
  have W18 : FnG l.prog w K mg base CX0 8 f18 _ _ (Prom K mg 2 f_law_is) := ok_law_is F18 g_repr k_law_plain
  have k_law_is : Kn l.prog w K mg base 8 (Str.ofString "_law_is") 2 f_law_is := ⟨f18, _, _, W18, m18, F18.kp, b18, rfl⟩
  have W19 : FnG l.prog w K mg base CX0 1 f19 _ _ (Prom K mg 2 f_law_says) := ok_law_says F19 
  have k_law_says : Kn l.prog w K mg base 1 (Str.ofString "_law_says") 2 f_law_says := ⟨f19, _, _, W19, m19, F19.kp, b19, rfl⟩
  have W20 : FnG l.prog w K mg base CX0 4 f20 _ _ (Prom K mg 1 f_law_schema) := ok_law_schema F20 g_int g_range g_sorted g_tuple k_law_draw k_law_pick
  have k_law_schema : Kn l.prog w K mg base 4 (Str.ofString "_law_schema") 1 f_law_schema := ⟨f20, _, _, W20, m20, F20.kp, b20, rfl⟩
  have W21 : FnG l.prog w K mg base CX0 1 f21 _ _ (Prom K mg 1 f_law_tuples) := ok_law_tuples F21 
  have k_law_tuples : Kn l.prog w K mg base 1 (Str.ofString "_law_tuples") 1 f_law_tuples := ⟨f21, _, _, W21, m21, F21.kp, b21, rfl⟩
  have W22 : FnG l.prog w K mg base CX0 4 f22 _ _ (Prom K mg 3 f_law_store) := ok_law_store F22 g_dict g_sorted g_tuple k_law_draw k_law_pick k_law_shuffled k_law_tuples
  have k_law_store : Kn l.prog w K mg base 4 (Str.ofString "_law_store") 3 f_law_store := ⟨f22, _, _, W22, m22, F22.kp, b22, rfl⟩
  have W23 : FnG l.prog w K mg base CX0 9 f23 _ _ (Prom K mg 2 f_law_near) := ok_law_near F23 g_bool g_int g_isinstance g_len g_list g_str g_tuple k_law_draw k_law_pick m23 5
  have k_law_near : Kn l.prog w K mg base 9 (Str.ofString "_law_near") 2 f_law_near := ⟨f23, _, _, W23, m23, F23.kp, b23, rfl⟩
  have W24 : FnG l.prog w K mg base CX0 1 f24 _ _ (Prom K mg 1 f_law_are_numbers) := ok_law_are_numbers F24 g_bool g_int g_isinstance g_tuple
  have k_law_are_numbers : Kn l.prog w K mg base 1 (Str.ofString "_law_are_numbers") 1 f_law_are_numbers := ⟨f24, _, _, W24, m24, F24.kp, b24, rfl⟩
  have W25 : FnG l.prog w K mg base CX0 2 f25 _ _ (Prom K mg 2 f_law_is_store) := ok_law_is_store F25 g_dict g_isinstance g_len g_list g_sorted g_str g_tuple g_zip k_law_are_numbers
  have k_law_is_store : Kn l.prog w K mg base 2 (Str.ofString "_law_is_store") 2 f_law_is_store := ⟨f25, _, _, W25, m25, F25.kp, b25, rfl⟩
  exact law_z (k := 9) 1 F26 sc_law (W12.up (by decide)) m12 F12.kp b12 (fun _ _ _ => pass0) rfl rfl (by decide) (by first | exact .inl rfl | exact .inr rfl) rfl rfl (fun _ _ _ _ _ _ => rfl) (fun cdv A stk s H E B hr hg => bd_law g_len g_min g_range g_tuple k_law_is k_law_is_store k_law_near k_law_says k_law_schema k_law_store k_empty_store k_is_store kk_empty_store_0_schema kk_is_store_0_thing_schema hr hg) tot59
end Zd

open PySem PySem.W PyProof.Rows in
set_option maxRecDepth 100000 in
set_option maxHeartbeats 0 in
theorem PySem.Challenge.cw_claimroots_k59_whole_stores_judged_holds : PySem.Challenge.rw_claimroots_k59_whole_stores_judged.Holds := by
  w_on; o_law; k_head; (case hw => w_witness2)
  k_fill
  refine Zd.walk_z (l := PySem.Challenge.rw_claimroots_k59_whole_stores_judged) (k := 10) (x := PySem.Str.ofString "script") rfl rfl ⟨rfl, by decide, by decide⟩ (fun w h Y => PySem.W.kIn_of Y) ?F
  case F =>
    intro w mg fa h KX G hmg
    refine' Zd.fin75 KX G hmg ?a0 ?l0 ?c0 ?k0 ?a1 ?l1 ?c1 ?k1 ?a2 ?l2 ?c2 ?k2 ?a3 ?l3 ?c3 ?k3 ?a4 ?l4 ?c4 ?k4 ?a5 ?l5 ?c5 ?k5 ?a6 ?l6 ?c6 ?k6 ?a7 ?l7 ?c7 ?k7 ?a8 ?l8 ?c8 ?k8 ?a9 ?l9 ?c9 ?k9 ?a10 ?l10 ?c10 ?k10 ?a11 ?l11 ?c11 ?k11 ?a12 ?l12 ?c12 ?k12 ?a13 ?l13 ?c13 ?k13 ?a14 ?l14 ?c14 ?k14 ?a15 ?l15 ?c15 ?k15 ?a16 ?l16 ?c16 ?k16 ?a17 ?l17 ?c17 ?k17 ?a18 ?l18 ?c18 ?k18 ?a19 ?l19 ?c19 ?k19 ?a20 ?l20 ?c20 ?k20 ?a21 ?l21 ?c21 ?k21 ?a22 ?l22 ?c22 ?k22 ?a23 ?l23 ?c23 ?k23 ?a24 ?l24 ?c24 ?k24 ?a25 ?l25 ?c25 ?k25 ?a26 ?l26 ?c26 ?k26 ?z_abs ?z_all ?z_bool ?z_dict ?z_int ?z_isinstance ?z_len ?z_list ?z_min ?z_range ?z_repr ?z_sorted ?z_str ?z_tuple ?z_zip ?b_KEPT ?l_KEPT ?v_KEPT ?b_LETTERS ?b_MOST_LETTERS ?b_MOST_NUMBER ?b_MOST_PLACES ?b_MOST_RELATIONS ?b_MOST_SORTS
    (case a0 => k_is)
    (case l0 => k_is)
    (case c0 => k_is)
    (case k0 => k_is)
    (case a1 => k_is)
    (case l1 => k_is)
    (case c1 => k_is)
    (case k1 => k_is)
    (case a2 => k_is)
    (case l2 => k_is)
    (case c2 => k_is)
    (case k2 => k_is)
    (case a3 => k_is)
    (case l3 => k_is)
    (case c3 => k_is)
    (case k3 => k_is)
    (case a4 => k_is)
    (case l4 => k_is)
    (case c4 => k_is)
    (case k4 => k_is)
    (case a5 => k_is)
    (case l5 => k_is)
    (case c5 => k_is)
    (case k5 => k_is)
    (case a6 => k_is)
    (case l6 => k_is)
    (case c6 => k_is)
    (case k6 => k_is)
    (case a7 => k_is)
    (case l7 => k_is)
    (case c7 => k_is)
    (case k7 => k_is)
    (case a8 => k_is)
    (case l8 => k_is)
    (case c8 => k_is)
    (case k8 => k_is)
    (case a9 => k_is)
    (case l9 => k_is)
    (case c9 => k_is)
    (case k9 => k_is)
    (case a10 => k_is)
    (case l10 => k_is)
    (case c10 => k_is)
    (case k10 => k_is)
    (case a11 => k_is)
    (case l11 => k_is)
    (case c11 => k_is)
    (case k11 => k_is)
    (case a12 => k_is)
    (case l12 => k_is)
    (case c12 => k_is)
    (case k12 => k_is)
    (case a13 => k_is)
    (case l13 => k_is)
    (case c13 => k_is)
    (case k13 => k_is)
    (case a14 => k_is)
    (case l14 => k_is)
    (case c14 => k_is)
    (case k14 => k_is)
    (case a15 => k_is)
    (case l15 => k_is)
    (case c15 => k_is)
    (case k15 => k_is)
    (case a16 => k_is)
    (case l16 => k_is)
    (case c16 => k_is)
    (case k16 => k_is)
    (case a17 => k_is)
    (case l17 => k_is)
    (case c17 => k_is)
    (case k17 => k_is)
    (case a18 => k_is)
    (case l18 => k_is)
    (case c18 => k_is)
    (case k18 => k_is)
    (case a19 => k_is)
    (case l19 => k_is)
    (case c19 => k_is)
    (case k19 => k_is)
    (case a20 => k_is)
    (case l20 => k_is)
    (case c20 => k_is)
    (case k20 => k_is)
    (case a21 => k_is)
    (case l21 => k_is)
    (case c21 => k_is)
    (case k21 => k_is)
    (case a22 => k_is)
    (case l22 => k_is)
    (case c22 => k_is)
    (case k22 => k_is)
    (case a23 => k_is)
    (case l23 => k_is)
    (case c23 => k_is)
    (case k23 => k_is)
    (case a24 => k_is)
    (case l24 => k_is)
    (case c24 => k_is)
    (case k24 => k_is)
    (case a25 => k_is)
    (case l25 => k_is)
    (case c25 => k_is)
    (case k25 => k_is)
    (case a26 => k_is)
    (case l26 => k_is)
    (case c26 => k_is)
    (case k26 => k_is)
    (case z_abs => k_is)
    (case z_all => k_is)
    (case z_bool => k_is)
    (case z_dict => k_is)
    (case z_int => k_is)
    (case z_isinstance => k_is)
    (case z_len => k_is)
    (case z_list => k_is)
    (case z_min => k_is)
    (case z_range => k_is)
    (case z_repr => k_is)
    (case z_sorted => k_is)
    (case z_str => k_is)
    (case z_tuple => k_is)
    (case z_zip => k_is)
    (case b_KEPT => k_is)
    (case l_KEPT => k_is)
    (case v_KEPT => exact (by decide +kernel))
    (case b_LETTERS => k_is)
    (case b_MOST_LETTERS => k_is)
    (case b_MOST_NUMBER => k_is)
    (case b_MOST_PLACES => k_is)
    (case b_MOST_RELATIONS => k_is)
    (case b_MOST_SORTS => k_is)

#print axioms PySem.Challenge.cw_claimroots_k59_whole_stores_judged_holds
