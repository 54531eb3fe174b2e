import PyProof.Rows.All
import Wide.All
import OpenK.AllK
import Wide.FinOn
import HandS.ForMost
import HandS.Exc
import HandS.TryOnly
import HandS.TryMany
import HandS.ExcOwn
import HandS.WordsExc
import HandS.Style
import HandS.Wide
import KE.DataEq
import HandS.Small
import HandS.Defaults
import HandS.IsInst
import HandS.More
import HandS.Conv
import HandS.Gcd
import HandS.SetFor
import HandS.RaiseMore
import KE.KSortTupG
import HandS.Sort
import HandS.SortInts
import HandS.Text
import HandS.Flow
import HandS.ExcIs
import HandS.EndBits
import KE.SortData
import KE.DataMinMax
import HandS.Rev
import HandS.RevTup
import HandS.HotCalls
import KE.DataCmp
import PySem.Challenge.RW_innworth_k77_places_of_orders
set_option Elab.async false
set_option linter.all false
set_option maxRecDepth 100000
set_option maxHeartbeats 4000000
namespace Z
open PySem PySem.Spec PyProof.Rows L2

/-- data: immutable trees, and handles to the mutable cells of the memory -/
inductive D where
  | non | bl (b : Bool) | int (i : Int) | str (x : Str)
  | tup (ds : List D) | lst (ds : List D) | sq (ds : List D) | dic (ks : List Key) (vs : List D) | obj (n : Nat) | exn (c : Str) (ks : List Str) (vs : List D)
/-- a mutable object's content; fz: a tree that was one -/
inductive Cell where
  | lst (ds : List D) | dic (ks : List Key) (vs : List D) | diT (ks : List (List Key)) (vs : List D) | ins (c : Nat) (fs : List (Str × D)) | fz (d : D)
abbrev Mem := List Cell
def Cell.live : Cell → Bool
  | .fz _ => false
  | _ => true
/-- an exception: its class's name, its fields -/
structure Ex where
  cls : Str
  fs : List (Str × D)
inductive R (α : Type) where
  | ok (a : α) (μ : Mem) | exc (e : Ex) (μ : Mem) | bad
def R.bind {α β : Type} : R α → (α → Mem → R β) → R β
  | .ok a μ, k => k a μ
  | .exc e μ, _ => .exc e μ
  | .bad, _ => .bad

/-- where one stands: the written part, the heap, the addresses of the cells, the cells, further addresses that are nobody's, the classes' addresses by number, the exception classes' by name -/
structure G where
  K : PySem.W.Frag
  H : Hp
  α : List Addr
  μ : Mem
  ex : List Addr
  cl : Nat → Option Addr
  xc : Str → Option Addr
  /-- the exception in hand: its address, its class's name, its own dict -/
  xo : Option (Addr × Str × Option Addr)
def G.live (g : G) (a : Addr) : Prop := ∃ (n : Nat) (c : Cell), g.α[n]? = some a ∧ g.μ[n]? = some c ∧ c.live = true
def G.P (g : G) (a : Addr) : Prop := g.live a ∨ a ∈ g.ex
def KL (K : PySem.W.Frag) (a : Addr) (xs : List V) : Prop := ∃ (o : Obj) (its : Array Value) (n : Nat), K.lookup a = some o ∧ o.cls = .type "list" ∧ o.dict = none ∧ o.data = .seq its n ∧ its.size ≤ sizeLine ∧ Vals xs its.toList
def KTp (K : PySem.W.Frag) (a : Addr) (xs : List V) : Prop := ∃ (o : Obj) (its : Array Value) (n : Nat), K.lookup a = some o ∧ o.cls = .type "tuple" ∧ o.data = .seq its n ∧ its.size ≤ sizeLine ∧ Vals xs its.toList
def G.isL (g : G) (a : Addr) (xs : List V) : Prop := (Rd g.H a (.lst xs) ∧ ¬ g.P a) ∨ KL g.K a xs
/-- a list of our own that is nobody's to change -/
def G.isW (g : G) (a : Addr) (xs : List V) : Prop := g.H a = some (.lst xs) ∧ ¬ g.P a
def G.isT (g : G) (a : Addr) (xs : List V) : Prop := (Rd g.H a (.tup xs) ∧ ¬ g.P a) ∨ KTp g.K a xs
def G.isD (g : G) (a : Addr) (kvs : List (Key × V)) : Prop := Rd g.H a (.dK kvs) ∧ ¬ g.P a
theorem G.isL.sq {g : G} {a : Addr} {xs : List V} (h : g.isL a xs) : SqL g.K g.H a xs := h.elim (fun z => .inl z.1) .inr
theorem G.isW.sq {g : G} {a : Addr} {xs : List V} (h : g.isW a xs) : SqL g.K g.H a xs := .inl (.inl h.1)
theorem G.isT.sq {g : G} {a : Addr} {xs : List V} (h : g.isT a xs) : SqT g.K g.H a xs := h.elim (fun z => .inl z.1) .inr

mutual
def Rep (g : G) : D → V → Prop
  | .non, v => v = .non
  | .bl b, v => v = .bl b
  | .int i, v => v = .int i
  | .str x, v => v = .str x
  | .tup ds, v => ∃ a xs, v = .ref a ∧ g.isT a xs ∧ RepL g ds xs
  | .lst ds, v => ∃ a xs, v = .ref a ∧ g.isW a xs ∧ RepL g ds xs
  | .sq ds, v => ∃ a xs, v = .ref a ∧ g.isL a xs ∧ RepL g ds xs
  | .dic ks ds, v => ∃ a xs, v = .ref a ∧ g.isD a (ks.zip xs) ∧ ks.length = xs.length ∧ RepL g ds xs
  | .obj n, v => ∃ a, g.α[n]? = some a ∧ v = .ref a
  | .exn c ks ds, v => ∃ a dd, g.xo = some (a, c, dd) ∧ v = .ref a ∧ ((ks = [] ∧ ds = [] ∧ dd = none) ∨ ∃ d xs, dd = some d ∧ g.H d = some (.xd (ks.zip xs)) ∧ ¬ g.P d ∧ ks.length = xs.length ∧ RepL g ds xs)
def RepL (g : G) : List D → List V → Prop
  | [], xs => xs = []
  | d :: ds, xs => ∃ v vs, xs = v :: vs ∧ Rep g d v ∧ RepL g ds vs
end
theorem RepL.nil {g : G} : RepL g [] [] := rfl
theorem RepL.cons {g : G} {d : D} {v : V} {ds : List D} {vs : List V} (h : Rep g d v) (t : RepL g ds vs) : RepL g (d :: ds) (v :: vs) := ⟨v, vs, rfl, h, t⟩
theorem RepL.length {g : G} : ∀ {ds : List D} {xs : List V}, RepL g ds xs → ds.length = xs.length
  | [], _, h => by cases h; rfl
  | _ :: _, _, ⟨_, _, e, _, t⟩ => by subst e; simp [t.length]
theorem RepL.get {g : G} : ∀ {ds : List D} {xs : List V} {i : Nat} {x : V}, RepL g ds xs → xs[i]? = some x → ∃ d, ds[i]? = some d ∧ Rep g d x
  | [], _, _, _, h, e => by cases h; simp at e
  | _ :: _, _, 0, _, ⟨_, _, q, r, _⟩, e => by subst q; simp at e; subst e; exact ⟨_, rfl, r⟩
  | _ :: _, _, i + 1, _, ⟨_, _, q, _, t⟩, e => by subst q; simp at e; obtain ⟨d, h1, h2⟩ := t.get e; exact ⟨d, by simpa using h1, h2⟩
theorem RepL.get' {g : G} {ds : List D} {xs : List V} {i : Nat} {d : D} (h : RepL g ds xs) (e : ds[i]? = some d) : ∃ x, xs[i]? = some x ∧ Rep g d x := by
  obtain ⟨hi, _⟩ := List.getElem?_eq_some_iff.mp e
  have hi' : i < xs.length := by rw [← h.length]; exact hi
  obtain ⟨d', h1, h2⟩ := h.get (List.getElem?_eq_getElem hi')
  rw [e] at h1; cases h1
  exact ⟨_, List.getElem?_eq_getElem hi', h2⟩
theorem RepL.app {g : G} : ∀ {ds es : List D} {xs ys : List V}, RepL g ds xs → RepL g es ys → RepL g (ds ++ es) (xs ++ ys)
  | [], _, _, _, h, k => by cases h; exact k
  | _ :: _, _, _, _, ⟨_, _, e, r, t⟩, k => by subst e; exact ⟨_, _, rfl, r, t.app k⟩
theorem RepL.set {g : G} {d : D} {v : V} (r : Rep g d v) : ∀ {ds : List D} {xs : List V} (i : Nat), RepL g ds xs → RepL g (ds.set i d) (xs.set i v)
  | [], _, _, h => by cases h; rfl
  | _ :: _, _, 0, ⟨_, _, e, _, t⟩ => by subst e; exact ⟨_, _, rfl, r, t⟩
  | _ :: _, _, i + 1, ⟨_, _, e, q, t⟩ => by subst e; exact ⟨_, _, rfl, q, RepL.set r i t⟩
theorem RepL.take {g : G} : ∀ {ds : List D} {xs : List V} (n : Nat), RepL g ds xs → RepL g (ds.take n) (xs.take n)
  | [], _, n, h => by cases h; simp; rfl
  | _ :: _, _, 0, _ => by simp; rfl
  | _ :: _, _, n + 1, ⟨_, _, e, r, t⟩ => by subst e; exact ⟨_, _, rfl, r, t.take n⟩
theorem RepL.drop {g : G} : ∀ {ds : List D} {xs : List V} (n : Nat), RepL g ds xs → RepL g (ds.drop n) (xs.drop n)
  | [], _, n, h => by cases h; simp; rfl
  | _ :: _, _, 0, h => h
  | _ :: _, _, n + 1, ⟨_, _, e, r, t⟩ => by subst e; exact t.drop n
theorem RepL.rev {g : G} : ∀ {ds : List D} {xs : List V}, RepL g ds xs → RepL g ds.reverse xs.reverse
  | [], _, h => by cases h; rfl
  | _ :: _, _, ⟨_, _, e, r, t⟩ => by subst e; rw [List.reverse_cons, List.reverse_cons]; exact t.rev.app (RepL.cons r RepL.nil)
theorem RepL.erase {g : G} : ∀ {ds : List D} {xs : List V} (i : Nat), RepL g ds xs → RepL g (ds.eraseIdx i) (xs.eraseIdx i)
  | [], _, _, h => by cases h; rfl
  | _ :: _, _, 0, ⟨_, _, e, _, t⟩ => by subst e; exact t
  | _ :: _, _, i + 1, ⟨_, _, e, q, t⟩ => by subst e; exact ⟨_, _, rfl, q, t.erase i⟩

/-! ### how one place goes on to another -/
structure Pre (g g' : G) : Prop where
  k : g'.K = g.K
  cl : g'.cl = g.cl
  xc : g'.xc = g.xc
  xo : g'.xo = g.xo
  α : ∃ β, g'.α = g.α ++ β
  h : ∀ b o, g.H b = some o → ¬ g.P b → g'.H b = some o
  p : ∀ a, g'.P a → g.P a ∨ g.H a = none
structure Ext (g g' : G) : Prop extends Pre g g' where
  x : ∀ b ∈ g.ex, g'.H b = g.H b
  s : ∀ b ∈ g.ex, b ∈ g'.ex
theorem Pre.refl (g : G) : Pre g g := ⟨rfl, rfl, rfl, rfl, ⟨[], by simp⟩, fun _ _ e _ => e, fun _ h => .inl h⟩
theorem Ext.refl (g : G) : Ext g g := ⟨Pre.refl g, fun _ _ => rfl, fun _ h => h⟩
theorem Ext.trans {g1 g2 g3 : G} (a : Ext g1 g2) (b : Ext g2 g3) : Ext g1 g3 where
  k := b.k.trans a.k
  cl := b.cl.trans a.cl
  xc := b.xc.trans a.xc
  xo := b.xo.trans a.xo
  α := by
    obtain ⟨x, e⟩ := a.α
    obtain ⟨y, f⟩ := b.α
    exact ⟨x ++ y, by rw [f, e, List.append_assoc]⟩
  h := fun q o e n => b.h q o (a.h q o e n) fun z => by
    rcases a.p q z with w | w
    · exact n w
    · rw [w] at e; cases e
  x := fun q hq => (b.x q (a.s q hq)).trans (a.x q hq)
  s := fun q hq => b.s q (a.s q hq)
  p := fun q z => by
    rcases b.p q z with w | w
    · exact a.p q w
    · cases e : g1.H q with
      | none => exact .inr rfl
      | some o =>
        refine .inl (Classical.byContradiction fun n => ?_)
        rw [a.h q o e n] at w; cases w
theorem Pre.get {g g' : G} (e : Pre g g') {n : Nat} {a : Addr} (h : g.α[n]? = some a) : g'.α[n]? = some a := by
  obtain ⟨β, q⟩ := e.α
  rw [q, List.getElem?_append_left (List.getElem?_eq_some_iff.mp h).1]; exact h
theorem Pre.rd {g g' : G} (e : Pre g g') {a : Addr} {u : HO} (h : Rd g.H a u) (n : ¬ g.P a) : Rd g'.H a u ∧ ¬ g'.P a := by
  have np : ∀ o, g.H a = some o → ¬ g'.P a := fun o q z => by
    rcases e.p a z with w | w
    · exact n w
    · rw [w] at q; cases q
  rcases h with h | ⟨o, h⟩
  · exact ⟨.inl (e.h _ _ h n), np _ h⟩
  · exact ⟨.inr ⟨o, e.h _ _ h n⟩, np _ h⟩
theorem Pre.isL {g g' : G} (e : Pre g g') {a : Addr} {xs : List V} (h : g.isL a xs) : g'.isL a xs := by
  rcases h with ⟨h, n⟩ | h
  · exact .inl (e.rd h n)
  · exact .inr (by rw [e.k]; exact h)
theorem Pre.isT {g g' : G} (e : Pre g g') {a : Addr} {xs : List V} (h : g.isT a xs) : g'.isT a xs := by
  rcases h with ⟨h, n⟩ | h
  · exact .inl (e.rd h n)
  · exact .inr (by rw [e.k]; exact h)
theorem Pre.isW {g g' : G} (e : Pre g g') {a : Addr} {xs : List V} (h : g.isW a xs) : g'.isW a xs := ⟨e.h _ _ h.1 h.2, (e.rd (.inl h.1) h.2).2⟩
theorem Pre.isD {g g' : G} (e : Pre g g') {a : Addr} {kvs : List (Key × V)} (h : g.isD a kvs) : g'.isD a kvs := e.rd h.1 h.2
mutual
theorem Rep.pre {g g' : G} (e : Pre g g') : ∀ {d : D} {v : V}, Rep g d v → Rep g' d v
  | .non, _, h => h
  | .bl _, _, h => h
  | .int _, _, h => h
  | .str _, _, h => h
  | .tup ds, _, h => by
    obtain ⟨a, xs, q, t, r⟩ := h
    exact ⟨a, xs, q, e.isT t, RepL.pre e r⟩
  | .lst ds, _, h => by
    obtain ⟨a, xs, q, t, r⟩ := h
    exact ⟨a, xs, q, e.isW t, RepL.pre e r⟩
  | .sq ds, _, h => by
    obtain ⟨a, xs, q, t, r⟩ := h
    exact ⟨a, xs, q, e.isL t, RepL.pre e r⟩
  | .dic ks ds, _, h => by
    obtain ⟨a, xs, q, t, l, r⟩ := h
    exact ⟨a, xs, q, e.isD t, l, RepL.pre e r⟩
  | .obj n, _, h => by
    obtain ⟨a, q, r⟩ := h
    exact ⟨a, e.get q, r⟩
  | .exn c ks ds, _, h => by
    obtain ⟨a, dd, q, r, t⟩ := h
    refine ⟨a, dd, e.xo.trans q, r, t.imp id ?_⟩
    rintro ⟨d, xs, h1, h2, h3, h4, h5⟩
    exact ⟨d, xs, h1, e.h _ _ h2 h3, (fun z => by
      rcases e.p d z with w | w
      · exact h3 w
      · rw [w] at h2; cases h2), h4, RepL.pre e h5⟩
theorem RepL.pre {g g' : G} (e : Pre g g') : ∀ {ds : List D} {xs : List V}, RepL g ds xs → RepL g' ds xs
  | [], _, h => h
  | d :: ds, _, h => by
    obtain ⟨v, vs, q, r, t⟩ := h
    exact ⟨v, vs, q, Rep.pre e r, RepL.pre e t⟩
end
theorem Rep.mono {g g' : G} (e : Ext g g') {d : D} {v : V} (h : Rep g d v) : Rep g' d v := h.pre e.toPre
theorem RepL.mono {g g' : G} (e : Ext g g') {ds : List D} {xs : List V} (h : RepL g ds xs) : RepL g' ds xs := h.pre e.toPre
end Z

namespace Z
open PySem PySem.Spec PyProof.Rows L2

theorem neN {H : Hp} {a p : Addr} (k : H a ≠ none) (h : H p = none) : a ≠ p := fun z => k (by rw [z]; exact h)
theorem neM {a p : Addr} {l : List Addr} (k : a ∈ l) (h : p ∉ l) : a ≠ p := fun z => h (by rw [← z]; exact k)
theorem neP {a p : Addr} {f : Addr → Prop} (k : ¬ f a) (h : f p) : a ≠ p := fun z => k (by rw [z]; exact h)
theorem neI {l : List Addr} {a b : Addr} {i n : Nat} (nd : l.Nodup) (hi : l[i]? = some a) (hn : l[n]? = some b) (e : i ≠ n) (nx : ∀ {l : List Addr}, l.Nodup → ∀ {i j : Nat} {a : Addr}, l[i]? = some a → l[j]? = some a → i = j) : a ≠ b := fun z => e (nx nd hi (by rw [z]; exact hn))
def CellRep (g : G) (a : Addr) : Cell → Prop
  | .lst ds => ∃ xs, g.H a = some (.lst xs) ∧ RepL g ds xs
  | .dic ks ds => ∃ xs, g.H a = some (.dK (ks.zip xs)) ∧ ks.length = xs.length ∧ RepL g ds xs
  | .diT ks ds => ∃ xs, g.H a = some (.dT (ks.zip xs)) ∧ ks.length = xs.length ∧ RepL g ds xs
  | .ins c fs => ∃ C dx xs, g.cl c = some C ∧ g.H a = some (.ins C dx ((fs.map (·.1)).zip xs)) ∧ fs.length = xs.length ∧ RepL g (fs.map (·.2)) xs
  | .fz d => Rep g d (.ref a)
structure MemOk (g : G) : Prop where
  len : g.α.length = g.μ.length
  nd : g.α.Nodup
  tr : ∀ a ∈ g.α, g.H a ≠ none
  exd : ∀ a ∈ g.ex, a ∉ g.α ∧ g.H a ≠ none
  cells : ∀ (n : Nat) (a : Addr) (c : Cell), g.α[n]? = some a → g.μ[n]? = some c → CellRep g a c
theorem MemOk.at {g : G} (m : MemOk g) {n : Nat} {c : Cell} (h : g.μ[n]? = some c) : ∃ a, g.α[n]? = some a ∧ CellRep g a c := by
  have hn : n < g.α.length := by rw [m.len]; exact (List.getElem?_eq_some_iff.mp h).1
  exact ⟨_, List.getElem?_eq_getElem hn, m.cells n _ c (List.getElem?_eq_getElem hn) h⟩
theorem nd_ix {l : List Addr} (h : l.Nodup) {i j : Nat} {a : Addr} (x : l[i]? = some a) (y : l[j]? = some a) : i = j := by
  obtain ⟨h1, e1⟩ := List.getElem?_eq_some_iff.mp x
  obtain ⟨h2, e2⟩ := List.getElem?_eq_some_iff.mp y
  exact (List.getElem_inj h).mp (e1.trans e2.symm)
theorem MemOk.live_at {g : G} (m : MemOk g) {n : Nat} {a : Addr} {c : Cell} (h : g.α[n]? = some a) (k : g.μ[n]? = some c) : g.live a ↔ c.live = true := by
  refine ⟨fun ⟨i, d, x, y, z⟩ => ?_, fun z => ⟨n, c, h, k, z⟩⟩
  have e := nd_ix m.nd x h
  subst e
  rw [k] at y; cases y; exact z
theorem MemOk.not_ex {g : G} (m : MemOk g) {n : Nat} {a : Addr} (h : g.α[n]? = some a) : a ∉ g.ex := fun z => (m.exd a z).1 (List.mem_of_getElem? h)
theorem MemOk.P_at {g : G} (m : MemOk g) {n : Nat} {a : Addr} {c : Cell} (h : g.α[n]? = some a) (k : g.μ[n]? = some c) : g.P a ↔ c.live = true := by
  unfold G.P
  rw [m.live_at h k]
  exact ⟨fun z => z.elim id fun w => absurd w (m.not_ex h), .inl⟩
theorem MemOk.P_tr {g : G} (m : MemOk g) {a : Addr} (h : g.P a) : g.H a ≠ none := by
  rcases h with ⟨n, c, x, _, _⟩ | h
  · exact m.tr a (List.mem_of_getElem? x)
  · exact (m.exd a h).2
theorem MemOk.fresh {g : G} (m : MemOk g) {p : Addr} (h : g.H p = none) : p ∉ g.α ∧ p ∉ g.ex ∧ ¬ g.P p := ⟨fun z => m.tr p z h, fun z => (m.exd p z).2 h, fun z => m.P_tr z h⟩

theorem CellRep.pre {g g' : G} (e : Pre g g') {a : Addr} : ∀ {c : Cell}, (c.live = true → g'.H a = g.H a) → CellRep g a c → CellRep g' a c
  | .lst ds, h, ⟨xs, x, r⟩ => ⟨xs, by rw [h rfl]; exact x, r.pre e⟩
  | .dic ks ds, h, ⟨xs, x, l, r⟩ => ⟨xs, by rw [h rfl]; exact x, l, r.pre e⟩
  | .diT ks ds, h, ⟨xs, x, l, r⟩ => ⟨xs, by rw [h rfl]; exact x, l, r.pre e⟩
  | .ins c fs, h, ⟨C, dx, xs, q, x, l, r⟩ => ⟨C, dx, xs, by rw [e.cl]; exact q, by rw [h rfl]; exact x, l, r.pre e⟩
  | .fz d, h, r => Rep.pre e r

theorem CellRep.mono {g g' : G} (e : Ext g g') {a : Addr} {c : Cell} (h : c.live = true → g'.H a = g.H a) (r : CellRep g a c) : CellRep g' a c := r.pre e.toPre h
/-! ### a new tree -/
def G.put (g : G) (p : Addr) (o : HO) : G := { g with H := upd g.H p o }
theorem G.put_P (g : G) (p : Addr) (o : HO) (a : Addr) : (g.put p o).P a ↔ g.P a := Iff.rfl
theorem Ext.put {g : G} {p : Addr} {o : HO} (h : g.H p = none) (n : p ∉ g.ex) : Ext g (g.put p o) where
  k := rfl
  cl := rfl
  xc := rfl
  xo := rfl
  α := ⟨[], by simp [G.put]⟩
  h := fun b u e _ => by
    show upd g.H p o b = _
    rw [upd_ne (ne_of_none e h)]; exact e
  x := fun b hb => by
    show upd g.H p o b = _
    rw [upd_ne (neM hb n)]
  s := fun _ h => h
  p := fun a z => .inl z
theorem MemOk.put {g : G} (m : MemOk g) {p : Addr} {o : HO} (h : g.H p = none) : MemOk (g.put p o) where
  len := m.len
  nd := m.nd
  tr := fun a ha => by
    show upd g.H p o a ≠ none
    rw [upd_ne (neN (m.tr a ha) h)]; exact m.tr a ha
  exd := fun a ha => ⟨(m.exd a ha).1, by
    show upd g.H p o a ≠ none
    rw [upd_ne (neN (m.exd a ha).2 h)]; exact (m.exd a ha).2⟩
  cells := fun n a c x y => (m.cells n a c x y).mono (Ext.put h (m.fresh h).2.1) fun _ => by
    show upd g.H p o a = _
    rw [upd_ne (neN (m.tr a (List.mem_of_getElem? x)) h)]
theorem G.put_nP {g : G} (m : MemOk g) {p : Addr} {o : HO} (h : g.H p = none) : ¬ (g.put p o).P p := (m.fresh h).2.2
theorem put_lst {g : G} (m : MemOk g) {p : Addr} (h : g.H p = none) {ds : List D} {xs : List V} (r : RepL g ds xs) : Rep (g.put p (.lst xs)) (.lst ds) (.ref p) :=
  ⟨p, xs, rfl, ⟨upd_same, G.put_nP m h⟩, r.mono (Ext.put h (m.fresh h).2.1)⟩
theorem put_tup {g : G} (m : MemOk g) {p : Addr} (h : g.H p = none) {ds : List D} {xs : List V} (r : RepL g ds xs) : Rep (g.put p (.tup xs)) (.tup ds) (.ref p) :=
  ⟨p, xs, rfl, .inl ⟨.inl upd_same, G.put_nP m h⟩, r.mono (Ext.put h (m.fresh h).2.1)⟩
theorem put_dic {g : G} (m : MemOk g) {p : Addr} (h : g.H p = none) {ks : List Key} {ds : List D} {xs : List V} (l : ks.length = xs.length) (r : RepL g ds xs) : Rep (g.put p (.dK (ks.zip xs))) (.dic ks ds) (.ref p) :=
  ⟨p, xs, rfl, ⟨.inl upd_same, G.put_nP m h⟩, l, r.mono (Ext.put h (m.fresh h).2.1)⟩

/-! ### a new cell -/
def G.new (g : G) (p : Addr) (o : HO) (c : Cell) : G := { g with H := upd g.H p o, α := g.α ++ [p], μ := g.μ ++ [c] }
theorem getElem?_snoc {α : Type} {l : List α} {x y : α} {n : Nat} (h : (l ++ [x])[n]? = some y) : l[n]? = some y ∨ (n = l.length ∧ y = x) := by
  by_cases hn : n < l.length
  · rw [List.getElem?_append_left hn] at h; exact .inl h
  · rw [List.getElem?_append_right (by omega)] at h
    cases e : n - l.length with
    | zero => rw [e] at h; simp at h; exact .inr ⟨by omega, h.symm⟩
    | succ k => rw [e] at h; simp at h
theorem MemOk.new_P {g : G} (m : MemOk g) {p : Addr} {o : HO} {c : Cell} {a : Addr} (h : (g.new p o c).P a) : g.P a ∨ a = p := by
  rcases h with ⟨n, d, x, y, z⟩ | h
  · rcases getElem?_snoc x with x | ⟨e1, e2⟩
    · rcases getElem?_snoc y with y | ⟨f1, f2⟩
      · exact .inl (.inl ⟨n, d, x, y, z⟩)
      · have := (List.getElem?_eq_some_iff.mp x).1
        rw [m.len] at this; omega
    · exact .inr e2
  · exact .inl (.inr h)
theorem Ext.new {g : G} (m : MemOk g) {p : Addr} {o : HO} {c : Cell} (h : g.H p = none) : Ext g (g.new p o c) where
  k := rfl
  cl := rfl
  xc := rfl
  xo := rfl
  α := ⟨[p], rfl⟩
  h := fun b u e _ => by
    show upd g.H p o b = _
    rw [upd_ne (ne_of_none e h)]; exact e
  x := fun b hb => by
    show upd g.H p o b = _
    rw [upd_ne (neM hb (m.fresh h).2.1)]
  s := fun _ h => h
  p := fun a z => (m.new_P z).imp id fun e => by rw [e]; exact h
theorem MemOk.new {g : G} (m : MemOk g) {p : Addr} {o : HO} {c : Cell} (h : g.H p = none) (r : CellRep (g.new p o c) p c) : MemOk (g.new p o c) where
  len := by simp [G.new, m.len]
  nd := by
    show (g.α ++ [p]).Nodup
    rw [List.nodup_append]
    exact ⟨m.nd, by simp, fun a ha b hb => by
      simp at hb; subst hb
      exact neM ha (m.fresh h).1⟩
  tr := fun a ha => by
    show upd g.H p o a ≠ none
    rcases List.mem_append.mp ha with ha | ha
    · rw [upd_ne (neN (m.tr a ha) h)]; exact m.tr a ha
    · simp at ha; subst ha; rw [upd_same]; simp
  exd := fun a ha => ⟨fun z => by
    rcases List.mem_append.mp z with z | z
    · exact (m.exd a ha).1 z
    · simp at z; subst z; exact (m.fresh h).2.1 ha, by
    show upd g.H p o a ≠ none
    rw [upd_ne (neN (m.exd a ha).2 h)]; exact (m.exd a ha).2⟩
  cells := fun n a d x y => by
    rcases getElem?_snoc y with y' | ⟨f1, f2⟩
    · have hn : n < g.α.length := by rw [m.len]; exact (List.getElem?_eq_some_iff.mp y').1
      have x' : g.α[n]? = some a := by
        have z : (g.α ++ [p])[n]? = some a := x
        rw [List.getElem?_append_left hn] at z; exact z
      exact (m.cells n a d x' y').mono (Ext.new m h) fun _ => by
        show upd g.H p o a = _
        rw [upd_ne (neN (m.tr a (List.mem_of_getElem? x')) h)]
    · subst f2
      have z : (g.α ++ [p])[n]? = some a := x
      rw [f1, ← m.len] at z
      simp at z
      subst z; exact r
theorem new_lst {g : G} (m : MemOk g) {p : Addr} (h : g.H p = none) {ds : List D} {xs : List V} (r : RepL g ds xs) : MemOk (g.new p (.lst xs) (.lst ds)) :=
  m.new h ⟨xs, upd_same, r.mono (Ext.new m h)⟩
theorem new_at (g : G) (m : MemOk g) (p : Addr) (o : HO) (c : Cell) : Rep (g.new p o c) (.obj g.μ.length) (.ref p) := ⟨p, by
  show (g.α ++ [p])[g.μ.length]? = some p
  rw [← m.len]; simp, rfl⟩

/-! ### a cell is written -/
def G.wr (g : G) (n : Nat) (a : Addr) (o : HO) (c : Cell) : G := { g with H := upd g.H a o, μ := g.μ.set n c }
theorem set_get {α : Type} {l : List α} {n m : Nat} {c d : α} (h : (l.set n c)[m]? = some d) : (m = n ∧ d = c) ∨ (m ≠ n ∧ l[m]? = some d) := by
  by_cases e : m = n
  · subst e
    have hl := (List.getElem?_eq_some_iff.mp h).1
    rw [List.length_set] at hl
    rw [List.getElem?_set_self hl] at h
    exact .inl ⟨rfl, (Option.some.inj h).symm⟩
  · rw [List.getElem?_set_ne (Ne.symm e)] at h
    exact .inr ⟨e, h⟩
theorem MemOk.wr_P {g : G} (m : MemOk g) {n : Nat} {a : Addr} {o : HO} {c c' : Cell} (hα : g.α[n]? = some a) (hμ : g.μ[n]? = some c) (hl : c.live = true) {b : Addr} (h : (g.wr n a o c').P b) : g.P b := by
  rcases h with ⟨i, d, x, y, z⟩ | h
  · rcases set_get y with ⟨e, f⟩ | ⟨e, f⟩
    · subst e
      have e2 : g.α[i]? = some b := x
      exact .inl ⟨i, c, e2, hμ, hl⟩
    · exact .inl ⟨i, d, x, f, z⟩
  · exact .inr h
theorem Ext.wr {g : G} (m : MemOk g) {n : Nat} {a : Addr} {o : HO} {c c' : Cell} (hα : g.α[n]? = some a) (hμ : g.μ[n]? = some c) (hl : c.live = true) : Ext g (g.wr n a o c') where
  k := rfl
  cl := rfl
  xc := rfl
  xo := rfl
  α := ⟨[], by simp [G.wr]⟩
  h := fun b u e np => by
    show upd g.H a o b = _
    rw [upd_ne (neP np ((m.P_at hα hμ).mpr hl))]; exact e
  x := fun b hb => by
    show upd g.H a o b = _
    rw [upd_ne (neM hb (m.not_ex hα))]
  s := fun _ h => h
  p := fun b z => .inl (m.wr_P hα hμ hl z)
theorem MemOk.wr {g : G} (m : MemOk g) {n : Nat} {a : Addr} {o : HO} {c c' : Cell} (hα : g.α[n]? = some a) (hμ : g.μ[n]? = some c) (hl : c.live = true) (r : CellRep (g.wr n a o c') a c') : MemOk (g.wr n a o c') where
  len := by simp [G.wr, m.len]
  nd := m.nd
  tr := fun b hb => by
    show upd g.H a o b ≠ none
    by_cases e : b = a
    · subst e; rw [upd_same]; simp
    · rw [upd_ne e]; exact m.tr b hb
  exd := fun b hb => ⟨(m.exd b hb).1, by
    show upd g.H a o b ≠ none
    rw [upd_ne (neM hb (m.not_ex hα))]; exact (m.exd b hb).2⟩
  cells := fun i b d x y => by
    rcases set_get y with ⟨e, f⟩ | ⟨e, f⟩
    · subst e; subst f
      have e2 : g.α[i]? = some b := x
      rw [hα] at e2; cases e2; exact r
    · exact (m.cells i b d x f).mono (Ext.wr m hα hμ hl) fun _ => by
        show upd g.H a o b = _
        rw [upd_ne (neI m.nd x hα e nd_ix)]

/-! ### a cell is frozen -/
def G.frz (g : G) (n : Nat) (d : D) : G := { g with μ := g.μ.set n (.fz d) }
theorem MemOk.frz_P {g : G} {n : Nat} {d : D} {b : Addr} (h : (g.frz n d).P b) : g.P b := by
  rcases h with ⟨i, e, x, y, z⟩ | h
  · rcases set_get y with ⟨e1, f⟩ | ⟨e1, f⟩
    · subst f; cases z
    · exact .inl ⟨i, e, x, f, z⟩
  · exact .inr h
theorem Ext.frz {g : G} {n : Nat} {d : D} : Ext g (g.frz n d) where
  k := rfl
  cl := rfl
  xc := rfl
  xo := rfl
  α := ⟨[], by simp [G.frz]⟩
  h := fun b u e _ => e
  x := fun _ _ => rfl
  s := fun _ h => h
  p := fun b z => .inl (MemOk.frz_P z)
theorem MemOk.frz_nP {g : G} (m : MemOk g) {n : Nat} {d : D} {a : Addr} (hα : g.α[n]? = some a) : ¬ (g.frz n d).P a := by
  rintro (⟨i, c, x, y, z⟩ | h)
  · have x' : g.α[i]? = some a := x
    have e := nd_ix m.nd x' hα
    subst e
    rcases set_get y with ⟨_, f⟩ | ⟨e1, _⟩
    · subst f; cases z
    · exact e1 rfl
  · exact m.not_ex hα h
theorem MemOk.frz {g : G} (m : MemOk g) {n : Nat} {d : D} {a : Addr} (hα : g.α[n]? = some a) (r : Rep (g.frz n d) d (.ref a)) : MemOk (g.frz n d) where
  len := by simp [G.frz, m.len]
  nd := m.nd
  tr := m.tr
  exd := m.exd
  cells := fun i b c x y => by
    rcases set_get y with ⟨e, f⟩ | ⟨e, f⟩
    · subst e; subst f
      have e2 : g.α[i]? = some b := x
      rw [hα] at e2; cases e2; exact r
    · exact (m.cells i b c x f).mono Ext.frz fun _ => rfl
/-- the tree that a cell becomes -/
def Cell.tree : Cell → Option D
  | .lst ds => some (.lst ds)
  | .dic ks ds => some (.dic ks ds)
  | .fz d => some d
  | _ => none
theorem frz_rep {g : G} (m : MemOk g) {n : Nat} {d : D} {a : Addr} {c : Cell} (hα : g.α[n]? = some a) (hμ : g.μ[n]? = some c) (ht : c.tree = some d) : Rep (g.frz n d) d (.ref a) := by
  have r := m.cells n a c hα hμ
  cases c with
  | lst ds =>
    cases ht
    obtain ⟨xs, e, q⟩ := r
    exact ⟨a, xs, rfl, ⟨e, m.frz_nP hα⟩, q.mono Ext.frz⟩
  | dic ks ds =>
    cases ht
    obtain ⟨xs, e, l, q⟩ := r
    exact ⟨a, xs, rfl, ⟨.inl e, m.frz_nP hα⟩, l, q.mono Ext.frz⟩
  | fz d' =>
    cases ht
    exact Rep.mono Ext.frz r
  | diT _ _ => cases ht
  | ins _ _ => cases ht

/-! ### the slots -/
abbrev Env := List (Option D)
def EnvOk (g : G) (ρ : Env) (σ : L2.St) : Prop := ρ.length = σ.length ∧ ∀ (i : Nat) (d : D), ρ[i]? = some (some d) → ∃ v, σ[i]? = some (some v) ∧ Rep g d v
theorem EnvOk.mono {g g' : G} {ρ : Env} {σ : L2.St} (e : Ext g g') (h : EnvOk g ρ σ) : EnvOk g' ρ σ := ⟨h.1, fun i d q => by
  obtain ⟨v, a, r⟩ := h.2 i d q
  exact ⟨v, a, r.mono e⟩⟩
theorem EnvOk.set {g : G} {ρ : Env} {σ : L2.St} (h : EnvOk g ρ σ) (i : Nat) {d : D} {v : V} (r : Rep g d v) : EnvOk g (ρ.set i (some d)) (σ.set i (some v)) := ⟨by simp [h.1], fun j e q => by
  rcases set_get q with ⟨e1, f⟩ | ⟨e1, f⟩
  · subst e1
    cases f
    have hl := (List.getElem?_eq_some_iff.mp q).1
    rw [List.length_set, h.1] at hl
    exact ⟨v, List.getElem?_set_self hl, r⟩
  · obtain ⟨v', a, r'⟩ := h.2 j e f
    exact ⟨v', by rw [List.getElem?_set_ne (Ne.symm e1)]; exact a, r'⟩⟩
theorem EnvOk.unset {g : G} {ρ : Env} {σ : L2.St} (h : EnvOk g ρ σ) (i : Nat) : EnvOk g (ρ.set i none) (σ.set i none) := ⟨by simp [h.1], fun j e q => by
  rcases set_get q with ⟨e1, f⟩ | ⟨e1, f⟩
  · cases f
  · obtain ⟨v', a, r'⟩ := h.2 j e f
    exact ⟨v', by rw [List.getElem?_set_ne (Ne.symm e1)]; exact a, r'⟩⟩
def wipeD (ρ : Env) : List Nat → Env
  | [] => ρ
  | v :: vs => (wipeD ρ vs).set v none
theorem EnvOk.wipe {g : G} {ρ : Env} {σ : L2.St} (h : EnvOk g ρ σ) : ∀ vs : List Nat, EnvOk g (wipeD ρ vs) (L2.wipe σ vs)
  | [] => h
  | v :: vs => (EnvOk.wipe h vs).unset v

/-! ### what is wanted of an outcome -/
def ExRep (g : G) (e : Ex) (C : Value) (dd : Option Addr) : Prop := ∃ c, g.xc e.cls = some c ∧ C = .ref c ∧
  ((e.fs = [] ∧ dd = none) ∨ ∃ d xs, dd = some d ∧ g.H d = some (.xd ((e.fs.map (·.1)).zip xs)) ∧ ¬ g.P d ∧ e.fs.length = xs.length ∧ RepL g (e.fs.map (·.2)) xs ∧ e.fs ≠ [])
def Out {α β : Type} (RR : G → α → β → Prop) (E : XK) (g : G) (r : R α) (Q : β → Hp → Prop) : Prop :=
  match r with
  | .ok a μ => ∀ (g' : G) (b : β), g'.μ = μ → MemOk g' → Ext g g' → RR g' a b → Q b g'.H
  | .exc e μ => ∀ (g' : G) (C : Value) (dd : Option Addr), g'.μ = μ → MemOk g' → Ext g g' → ExRep g' e C dd → E C dd g'.H
  | .bad => False
theorem Out.bind {α β γ δ : Type} {RR : G → α → β → Prop} {RR2 : G → γ → δ → Prop} {E : XK} {g : G} {r : R α} {k : α → Mem → R γ} {Q : β → Hp → Prop} {Q2 : δ → Hp → Prop} (h : Out RR2 E g (r.bind k) Q2)
    (hk : ∀ (a : α) (g1 : G) (b : β), MemOk g1 → Ext g g1 → RR g1 a b → Out RR2 E g1 (k a g1.μ) Q2 → Q b g1.H) : Out RR E g r Q := by
  cases r with
  | ok a μ =>
    intro g1 b e m x rr
    subst e
    refine hk a g1 b m x rr ?_
    show Out RR2 E g1 (k a g1.μ) Q2
    have h' : Out RR2 E g (k a g1.μ) Q2 := h
    cases q : k a g1.μ with
    | ok c μ2 =>
      rw [q] at h'
      exact fun g2 d e2 m2 x2 r2 => h' g2 d e2 m2 (x.trans x2) r2
    | exc e μ2 =>
      rw [q] at h'
      exact fun g2 C dd e2 m2 x2 r2 => h' g2 C dd e2 m2 (x.trans x2) r2
    | bad => rw [q] at h'; exact h'
  | exc e μ => exact h
  | bad => exact h
theorem Out.imp {α β : Type} {RR : G → α → β → Prop} {E : XK} {g : G} {r : R α} {Q Q2 : β → Hp → Prop} (h : Out RR E g r Q) (q : ∀ b H, Q b H → Q2 b H) : Out RR E g r Q2 := by
  cases r with
  | ok a μ => exact fun g' b e m x rr => q _ _ (h g' b e m x rr)
  | exc e μ => exact h
  | bad => exact h
theorem Out.from {α β : Type} {RR : G → α → β → Prop} {E : XK} {g g1 : G} {r : R α} {Q : β → Hp → Prop} (h : Out RR E g r Q) (x : Ext g g1) : Out RR E g1 r Q := by
  cases r with
  | ok a μ => exact fun g' b e m y rr => h g' b e m (x.trans y) rr
  | exc e μ => exact fun g' C dd e m y rr => h g' C dd e m (x.trans y) rr
  | bad => exact h
end Z

namespace Z
open PySem PySem.Spec PyProof.Rows L2

/-! ### meanings, and what it is to have one -/
abbrev Sem := Env → Mem → R D
abbrev SemT := Env → Mem → R Bool
abbrev SemA := Env → Mem → R (List D)
structure Fx where
  K : PySem.W.Frag
  cl : Nat → Option Addr
  xc : Str → Option Addr
  xo : Option (Addr × Str × Option Addr)
def G.fx (g : G) : Fx := ⟨g.K, g.cl, g.xc, g.xo⟩
theorem Ext.fx {g g' : G} (e : Ext g g') : g'.fx = g.fx := by
  unfold G.fx
  rw [e.k, e.cl, e.xc, e.xo]
def tW {α β : Type} (RR : G → α → β → Prop) (F : Fx) (W : WX) (f : Env → Mem → R α) : L2.St → Hp → (β → Hp → Prop) → Prop := fun σ H Q =>
  ∃ (g : G) (ρ : Env), g.fx = F ∧ g.H = H ∧ MemOk g ∧ EnvOk g ρ σ ∧ Out RR (fun c d H' => W c d σ H') g (f ρ g.μ) Q
def RepB (_ : G) (b : Bool) (c : Bool) : Prop := c = b
abbrev tE (F : Fx) (W : WX) (f : Sem) : TE := tW Rep F W f
abbrev tT (F : Fx) (W : WX) (f : SemT) : TT := tW RepB F W f
abbrev tA (F : Fx) (W : WX) (f : SemA) : TA := tW RepL F W f
def SE (X : Cx) (F : Fx) (W : WX) (e : Expr) (f : Sem) : Prop := PE X e (tE F W f)
def ST (X : Cx) (F : Fx) (W : WX) (e : Expr) (f : SemT) : Prop := PT X e (tT F W f)
def SA (X : Cx) (F : Fx) (W : WX) (es : List Expr) (f : SemA) : Prop := PA X es (tA F W f)
theorem PE.imp {X : Cx} {e : Expr} {t t' : TE} (h : PE X e t) (k : ∀ σ H Q, t' σ H Q → t σ H Q) : PE X e t' := ⟨fun pins s σ H Q I w => h.run pins s σ H Q I (k σ H Q w)⟩
theorem PT.imp {X : Cx} {e : Expr} {t t' : TT} (h : PT X e t) (k : ∀ σ H Q, t' σ H Q → t σ H Q) : PT X e t' := ⟨fun pins s σ H Q I w => h.run pins s σ H Q I (k σ H Q w)⟩
theorem PW.imp {X : Cx} {e : Expr} {t t' : TT} (h : PW X e t) (k : ∀ σ H Q, t' σ H Q → t σ H Q) : PW X e t' := ⟨fun wh pins s σ H Q I w => h.run wh pins s σ H Q I (k σ H Q w)⟩
theorem PA.imp {X : Cx} {es : List Expr} {t t' : TA} (h : PA X es t) (k : ∀ σ H Q, t' σ H Q → t σ H Q) : PA X es t' := ⟨fun pos pins s σ H Q I w => h.run pos pins s σ H Q I (k σ H Q w)⟩
/-- the move: the first part's reading, then on from there -/
theorem tW.bind {α β γ δ : Type} {RR : G → α → β → Prop} {RR2 : G → γ → δ → Prop} {F : Fx} {W : WX} {f : Env → Mem → R α} {k : Env → α → Mem → R γ} {σ : L2.St} {H : Hp} {Q2 : δ → Hp → Prop} {Q : β → Hp → Prop}
    (h : tW RR2 F W (fun ρ μ => (f ρ μ).bind (k ρ)) σ H Q2)
    (hk : ∀ (g : G) (ρ : Env) (a : α) (b : β), g.fx = F → MemOk g → EnvOk g ρ σ → RR g a b → Out RR2 (fun c d H' => W c d σ H') g (k ρ a g.μ) Q2 → Q b g.H) : tW RR F W f σ H Q := by
  obtain ⟨g, ρ, e, rfl, m, v, o⟩ := h
  exact ⟨g, ρ, e, rfl, m, v, o.bind fun a g1 b m1 x r o1 => hk g1 ρ a b (x.fx.trans e) m1 (v.mono x) r o1⟩

/-! ### operations on data that cannot raise -/
def R.of {α : Type} : Option (α × Mem) → R α
  | some (a, μ) => .ok a μ
  | none => .bad
def R.ofP {α : Type} (μ : Mem) : Option α → R α
  | some a => .ok a μ
  | none => .bad
/-- by values, as an operator's rule wants it -/
def rD2 (F : Fx) (op : D → D → Mem → R D) : R2 := fun x y H Q => ∃ (g : G) (a b : D), g.fx = F ∧ g.H = H ∧ MemOk g ∧ Rep g a x ∧ Rep g b y ∧ Out Rep (fun _ _ _ => False) g (op a b g.μ) Q
def rD1 (F : Fx) (op : D → Mem → R D) : V → Hp → VK → Prop := fun x H Q => ∃ (g : G) (a : D), g.fx = F ∧ g.H = H ∧ MemOk g ∧ Rep g a x ∧ Out Rep (fun _ _ _ => False) g (op a g.μ) Q
def rDA (F : Fx) (op : List D → Mem → R D) : List V → Hp → VK → Prop := fun xs H Q => ∃ (g : G) (ds : List D), g.fx = F ∧ g.H = H ∧ MemOk g ∧ RepL g ds xs ∧ Out Rep (fun _ _ _ => False) g (op ds g.μ) Q
def rDM (F : Fx) (op : D → List D → Mem → R D) : V → List V → Hp → VK → Prop := fun x xs H Q => ∃ (g : G) (a : D) (ds : List D), g.fx = F ∧ g.H = H ∧ MemOk g ∧ Rep g a x ∧ RepL g ds xs ∧ Out Rep (fun _ _ _ => False) g (op a ds g.μ) Q
/-- no exception: then any wish will do -/
def R.calm {α : Type} : R α → Prop
  | .exc _ _ => False
  | _ => True
theorem Out.calm {α β : Type} {RR : G → α → β → Prop} {E E' : XK} {g : G} {r : R α} {Q : β → Hp → Prop} (h : Out RR E g r Q) (c : r.calm) : Out RR E' g r Q := by
  cases r with
  | ok a μ => exact h
  | exc e μ => exact c.elim
  | bad => exact h
theorem R.calm_of {α : Type} (o : Option (α × Mem)) : (R.of o).calm := by
  cases o with
  | none => trivial
  | some p => trivial
theorem R.calm_ofP {α : Type} (μ : Mem) (o : Option α) : (R.ofP μ o).calm := by
  cases o with
  | none => trivial
  | some p => trivial
/-- an outcome without a change -/
theorem Out.here {α β : Type} {RR : G → α → β → Prop} {E : XK} {g : G} {a : α} {b : β} {Q : β → Hp → Prop} (h : Out RR E g (.ok a g.μ) Q) (m : MemOk g) (r : RR g a b) : Q b g.H := h g b rfl m (Ext.refl g) r
theorem Out.ofP {α β : Type} {RR : G → α → β → Prop} {E : XK} {g : G} {o : Option α} {Q : β → Hp → Prop} (h : Out RR E g (R.ofP g.μ o) Q) : ∃ a, o = some a ∧ Out RR E g (.ok a g.μ) Q := by
  cases o with
  | none => exact h.elim
  | some a => exact ⟨a, rfl, h⟩

/-! ### the combinators -/
def fC (d : D) : Sem := fun _ μ => .ok d μ
def Env.at (ρ : Env) (i : Nat) : Option D := (ρ[i]?).getD none
def fV (i : Nat) : Sem := fun ρ μ => R.ofP μ (Env.at ρ i)
theorem Env.at_some {ρ : Env} {i : Nat} {d : D} (h : Env.at ρ i = some d) : ρ[i]? = some (some d) := by
  unfold Env.at at h
  cases e : ρ[i]? with
  | none => rw [e] at h; cases h
  | some o => rw [e] at h; simp at h; rw [h]
/-- a variable whose cell becomes a tree -/
def frzD (d : D) (μ : Mem) : R D := match d with
  | .obj n => match μ[n]? with
    | some c => match c.tree with
      | some t => .ok t (μ.set n (.fz t))
      | none => .bad
    | none => .bad
  | d => .ok d μ
def fFz (i : Nat) : Sem := fun ρ μ => (fV i ρ μ).bind frzD
def fOp2 (op : D → D → Mem → R D) (a b : Sem) : Sem := fun ρ μ => (a ρ μ).bind fun x μ => (b ρ μ).bind fun y μ => op x y μ
def fOp1 (op : D → Mem → R D) (a : Sem) : Sem := fun ρ μ => (a ρ μ).bind op
def fNil : SemA := fun _ μ => .ok [] μ
def fCons (a : Sem) (r : SemA) : SemA := fun ρ μ => (a ρ μ).bind fun x μ => (r ρ μ).bind fun xs μ => .ok (x :: xs) μ
def fTup (es : SemA) : Sem := fun ρ μ => (es ρ μ).bind fun ds μ => if ds.length ≤ sizeLine then .ok (.tup ds) μ else .bad
/-- the new list of these, as its items -/
def fItems (es : SemA) : SemA := fun ρ μ => (es ρ μ).bind fun ds μ => if ds.length ≤ sizeLine then .ok ds μ else .bad
/-- a new list, as a tree; in a cell -/
def fTree (f : SemA) : Sem := fun ρ μ => (f ρ μ).bind fun ds μ => .ok (.lst ds) μ
def fBox (f : SemA) : Sem := fun ρ μ => (f ρ μ).bind fun ds μ => .ok (.obj μ.length) (μ ++ [.lst ds])
def fIf (t : SemT) (a b : Sem) : Sem := fun ρ μ => (t ρ μ).bind fun c μ => if c = true then a ρ μ else b ρ μ

section
variable {X : Cx} {F : Fx} {W : WX} {a b c e : Expr} {fa fb fc fe : Sem} {pos : Pos}
/-! ### names and constants -/
theorem se_int {i : Int} {j : Nat} : SE X F W (.Constant (.int i) j pos) (fC (.int i)) := PE.imp pe_int fun _ _ _ ⟨g, ρ, _, e2, m, _, o⟩ => by subst e2; exact o.here m rfl
theorem se_str {x : Str} {j : Nat} : SE X F W (.Constant (.str x) j pos) (fC (.str x)) := PE.imp pe_str fun _ _ _ ⟨g, ρ, _, e2, m, _, o⟩ => by subst e2; exact o.here m rfl
theorem se_bl {x : Bool} {j : Nat} : SE X F W (.Constant (.bool x) j pos) (fC (.bl x)) := PE.imp pe_bl fun _ _ _ ⟨g, ρ, _, e2, m, _, o⟩ => by subst e2; exact o.here m rfl
theorem se_non {j : Nat} : SE X F W (.Constant .none j pos) (fC .non) := PE.imp pe_non fun _ _ _ ⟨g, ρ, _, e2, m, _, o⟩ => by subst e2; exact o.here m rfl
theorem se_v (i : Nat) {x : Str} (hN : X.N[i]? = some x := by rfl) (hv : Vis X.env.scope x := by first | exact .inl rfl | exact .inr (.inl rfl) | exact .inr (.inr rfl)) (hd : (x == ("__debug__" : Str)) = false := by decide) (hcd : (x == ("__classdict__" : Str)) = false := by decide) : SE X F W (.Name x pos) (fV i) :=
  PE.imp (pe_var (i := i) hN hv hd hcd) fun σ H Q ⟨g, ρ, _, e2, m, v, o⟩ => by
    subst e2
    obtain ⟨d, e, o⟩ := Out.ofP o
    obtain ⟨w, h1, h2⟩ := v.2 i d (Env.at_some e)
    exact ⟨w, h1, o.here m h2⟩
theorem se_fz (i : Nat) {x : Str} (hN : X.N[i]? = some x := by rfl) (hv : Vis X.env.scope x := by first | exact .inl rfl | exact .inr (.inl rfl) | exact .inr (.inr rfl)) (hd : (x == ("__debug__" : Str)) = false := by decide) (hcd : (x == ("__classdict__" : Str)) = false := by decide) : SE X F W (.Name x pos) (fFz i) :=
  PE.imp (pe_var (i := i) hN hv hd hcd) fun σ H Q ⟨g, ρ, _, e2, m, v, o⟩ => by
    subst e2
    unfold fFz fV at o
    cases e : Env.at ρ i with
    | none => rw [e] at o; exact o.elim
    | some d =>
      rw [e] at o
      obtain ⟨w, h1, h2⟩ := v.2 i d (Env.at_some e)
      refine ⟨w, h1, ?_⟩
      have o' : Out Rep (fun c d H' => W c d σ H') g (frzD d g.μ) Q := o
      unfold frzD at o'
      split at o'
      · rename_i n
        obtain ⟨aa, q1, rfl⟩ := h2
        split at o'
        · rename_i cc hc
          split at o'
          · rename_i t ht
            exact o' (g.frz n t) (.ref aa) rfl (m.frz q1 (frz_rep m q1 hc ht)) Ext.frz (frz_rep m q1 hc ht)
          · exact o'.elim
        · exact o'.elim
      · exact o'.here m h2
/-! ### operators -/
theorem se_op2 {op : Operator} {f : D → D → Mem → R D} (hc : ∀ x y μ, (f x y μ).calm) (ho : OpR X (binaryOp op) (rD2 F f)) (ha : SE X F W a fa) (hb : SE X F W b fb) : SE X F W (.BinOp a op b pos) (fOp2 f fa fb) :=
  PE.imp (pe_op ho ha hb) fun σ H Q h => tW.bind h fun g ρ x v e m w r o => by
    have h2 : tE F W (fun ρ' μ => (fb ρ' μ).bind fun y μ => f x y μ) σ g.H Q := ⟨g, ρ, e, rfl, m, w, o⟩
    obtain ⟨g0, ρ0, e0, h0, m0, w0, o0⟩ := h2
    refine ⟨g, ρ, e, rfl, m, w, o.bind fun y g1 u m1 x1 r1 o1 => ?_⟩
    exact ⟨g1, x, y, x1.fx.trans e, rfl, m1, r.mono x1, r1, o1.calm (hc _ _ _)⟩
theorem se_cmp2 {op : CmpOp} {f : D → D → Mem → R D} (hc : ∀ x y μ, (f x y μ).calm) (ho : OpR X (compareOp op) (rD2 F f)) (ha : SE X F W a fa) (hb : SE X F W b fb) (hm : behindInMarks op b = false := by first | exact nomark _ | rfl) : SE X F W (.Compare a [op] [b] pos) (fOp2 f fa fb) :=
  PE.imp (pe_cmpR ho ha hb hm) fun σ H Q h => tW.bind h fun g ρ x v e m w r o =>
    ⟨g, ρ, e, rfl, m, w, o.bind fun y g1 u m1 x1 r1 o1 => ⟨g1, x, y, x1.fx.trans e, rfl, m1, r.mono x1, r1, o1.calm (hc _ _ _)⟩⟩
theorem se_op1 {op : UnaryOp} {f : D → Mem → R D} (hc : ∀ x μ, (f x μ).calm) (ho : UnR X (unaryOp op) (rD1 F f)) (ha : SE X F W a fa) : SE X F W (.UnaryOp op a pos) (fOp1 f fa) :=
  PE.imp (pe_un ho ha) fun σ H Q h => tW.bind h fun g ρ x v e m w r o => ⟨g, x, e, rfl, m, r, o.calm (hc _ _)⟩
/-! ### lists of arguments, displays -/
theorem sa_nil : SA X F W [] fNil := PA.imp pa_nil fun σ H Q ⟨g, ρ, _, e2, m, _, o⟩ => by subst e2; exact o.here m RepL.nil
theorem sa_cons {es : List Expr} {r : SemA} (ha : SE X F W a fa) (hr : SA X F W es r) (hs : starEach (a :: es) X.env = (false, eval a X.env) :: starEach es X.env := by rfl) : SA X F W (a :: es) (fCons fa r) :=
  PA.imp (pa_cons ha hr hs) fun σ H Q h => tW.bind h fun g ρ x v e m w r o =>
    ⟨g, ρ, e, rfl, m, w, o.bind fun xs g1 vs m1 x1 r1 o1 => o1.here m1 (RepL.cons (r.mono x1) r1)⟩
end
end Z

namespace Z
open PySem PySem.Spec PyProof.Rows L2

/-! ### new lists -/
def tF (F : Fx) (W : WX) (f : SemA) : TE := fun σ H Q =>
  ∃ (g : G) (ρ : Env), g.fx = F ∧ g.H = H ∧ MemOk g ∧ EnvOk g ρ σ ∧ Out RepL (fun c d H' => W c d σ H') g (f ρ g.μ) (fun xs H' => ∀ p, H' p = none → Q (.ref p) (upd H' p (.lst xs)))
def SF (X : Cx) (F : Fx) (W : WX) (e : Expr) (f : SemA) : Prop := PE X e (tF F W f)
theorem Out.of_bind {α β γ δ : Type} {RR : G → α → β → Prop} {RR2 : G → γ → δ → Prop} {E : XK} {g : G} {r : R α} {k : α → Mem → R γ} {Q : β → Hp → Prop} {Q2 : δ → Hp → Prop} (h : Out RR2 E g (r.bind k) Q2)
    (hk : ∀ (a : α) (g1 : G) (b : β), MemOk g1 → Ext g g1 → RR g1 a b → Out RR2 E g1 (k a g1.μ) Q2 → Q b g1.H) : Out RR E g r Q := h.bind hk
section
variable {X : Cx} {F : Fx} {W : WX} {a b c e : Expr} {fa fb fc fe : Sem} {f : SemA} {pos : Pos}
theorem se_tree (h : SF X F W e f) : SE X F W e (fTree f) := PE.imp h fun σ H Q ⟨g, ρ, e1, e2, m, v, o⟩ => ⟨g, ρ, e1, e2, m, v, o.bind fun ds g1 xs m1 x1 r1 o1 p hp =>
  o1 (g1.put p (.lst xs)) (.ref p) rfl (m1.put hp) (Ext.put hp (m1.fresh hp).2.1) (put_lst m1 hp r1)⟩
theorem se_box (h : SF X F W e f) : SE X F W e (fBox f) := PE.imp h fun σ H Q ⟨g, ρ, e1, e2, m, v, o⟩ => ⟨g, ρ, e1, e2, m, v, o.bind fun ds g1 xs m1 x1 r1 o1 p hp =>
  o1 (g1.new p (.lst xs) (.lst ds)) (.ref p) rfl (new_lst m1 hp r1) (Ext.new m1 hp) (new_at g1 m1 p _ _)⟩
theorem sf_lst {es : List Expr} (h : SA X F W es f) : SF X F W (.List es pos) (fItems f) := PE.imp (pe_lst h) fun σ H Q ⟨g, ρ, e1, e2, m, v, o⟩ => by
  refine ⟨g, ρ, e1, e2, m, v, ?_⟩
  refine o.of_bind fun ds g1 xs m1 x1 r1 o1 => ?_
  by_cases hl : ds.length ≤ sizeLine
  · rw [if_pos hl] at o1
    exact ⟨by rw [← r1.length]; exact hl, fun p hp => o1.here m1 r1 p hp⟩
  · rw [if_neg hl] at o1; exact o1.elim
theorem se_tup {es : List Expr} {k : Nat} (h : SA X F W es f) : SE X F W (.Tuple es k pos) (fTup f) := PE.imp (pe_tup h) fun σ H Q ⟨g, ρ, e1, e2, m, v, o⟩ => by
  refine ⟨g, ρ, e1, e2, m, v, ?_⟩
  refine o.of_bind fun ds g1 xs m1 x1 r1 o1 => ?_
  by_cases hl : ds.length ≤ sizeLine
  · rw [if_pos hl] at o1
    exact ⟨by rw [← r1.length]; exact hl, fun p hp => o1 (g1.put p (.tup xs)) (.ref p) rfl (m1.put hp) (Ext.put hp (m1.fresh hp).2.1) (put_tup m1 hp r1)⟩
  · rw [if_neg hl] at o1; exact o1.elim
end

/-! ### reading -/
def lstD (μ : Mem) : D → Option (List D)
  | .lst ds => some ds
  | .sq ds => some ds
  | .obj n => match μ[n]? with
    | some (.lst ds) => some ds
    | some (.fz (.lst ds)) => some ds
    | _ => none
  | _ => none
def tupD : D → Option (List D)
  | .tup ds => some ds
  | _ => none
theorem lstD_rep {g : G} (m : MemOk g) {d : D} {v : V} {ds : List D} (r : Rep g d v) (h : lstD g.μ d = some ds) : ∃ a xs, v = .ref a ∧ SqL g.K g.H a xs ∧ RepL g ds xs := by
  cases d with
  | lst es => cases h; obtain ⟨a, xs, e, q, t⟩ := r; exact ⟨a, xs, e, q.sq, t⟩
  | sq es => cases h; obtain ⟨a, xs, e, q, t⟩ := r; exact ⟨a, xs, e, q.sq, t⟩
  | obj n =>
    obtain ⟨a, q, rfl⟩ := r
    cases e : g.μ[n]? with
    | none => simp [lstD, e] at h
    | some c =>
      have cr := m.cells n a c q e
      cases c with
      | lst es => simp [lstD, e] at h; subst h; obtain ⟨xs, h1, t⟩ := cr; exact ⟨a, xs, rfl, .inl (.inl h1), t⟩
      | fz d =>
        cases d with
        | lst es => simp [lstD, e] at h; subst h; obtain ⟨a', xs, e1, q1, t⟩ := cr; exact ⟨a', xs, e1, q1.sq, t⟩
        | _ => simp [lstD, e] at h
      | _ => simp [lstD, e] at h
  | _ => simp [lstD] at h
/-- .. where it is a list that is tracked as such -/
def lstW (μ : Mem) : D → Option (List D)
  | .lst ds => some ds
  | .obj n => match μ[n]? with
    | some (.lst ds) => some ds
    | some (.fz (.lst ds)) => some ds
    | _ => none
  | _ => none
theorem lstW_rep {g : G} (m : MemOk g) {d : D} {v : V} {ds : List D} (r : Rep g d v) (h : lstW g.μ d = some ds) : ∃ a xs, v = .ref a ∧ g.H a = some (.lst xs) ∧ RepL g ds xs := by
  cases d with
  | lst es => cases h; obtain ⟨a, xs, e, q, t⟩ := r; exact ⟨a, xs, e, q.1, t⟩
  | obj n =>
    obtain ⟨a, q, rfl⟩ := r
    cases e : g.μ[n]? with
    | none => simp [lstW, e] at h
    | some c =>
      have cr := m.cells n a c q e
      cases c with
      | lst es => simp [lstW, e] at h; subst h; obtain ⟨xs, h1, t⟩ := cr; exact ⟨a, xs, rfl, h1, t⟩
      | fz d =>
        cases d with
        | lst es => simp [lstW, e] at h; subst h; obtain ⟨a', xs, e1, q1, t⟩ := cr; exact ⟨a', xs, e1, q1.1, t⟩
        | _ => simp [lstW, e] at h
      | _ => simp [lstW, e] at h
  | _ => simp [lstW] at h
theorem tupD_rep {g : G} {d : D} {v : V} {ds : List D} (r : Rep g d v) (h : tupD d = some ds) : ∃ a xs, v = .ref a ∧ SqT g.K g.H a xs ∧ RepL g ds xs := by
  cases d with
  | tup es => cases h; obtain ⟨a, xs, e, q, t⟩ := r; exact ⟨a, xs, e, q.sq, t⟩
  | _ => simp [tupD] at h
/-- a dict's rows -/
def dicD (μ : Mem) : D → Option (List Key × List D)
  | .dic ks vs => some (ks, vs)
  | .obj n => match μ[n]? with
    | some (.dic ks vs) => some (ks, vs)
    | some (.fz (.dic ks vs)) => some (ks, vs)
    | _ => none
  | _ => none
theorem dicD_rep {g : G} (m : MemOk g) {d : D} {v : V} {ks : List Key} {ds : List D} (r : Rep g d v) (h : dicD g.μ d = some (ks, ds)) : ∃ a xs, v = .ref a ∧ Rd g.H a (.dK (ks.zip xs)) ∧ ks.length = xs.length ∧ RepL g ds xs := by
  cases d with
  | dic ks' es => cases h; obtain ⟨a, xs, e, q, l, t⟩ := r; exact ⟨a, xs, e, q.1, l, t⟩
  | obj n =>
    obtain ⟨a, q, rfl⟩ := r
    cases e : g.μ[n]? with
    | none => simp [dicD, e] at h
    | some c =>
      have cr := m.cells n a c q e
      cases c with
      | dic ks' es => simp [dicD, e] at h; obtain ⟨rfl, rfl⟩ := h; obtain ⟨xs, h1, l, t⟩ := cr; exact ⟨a, xs, rfl, .inl h1, l, t⟩
      | fz d =>
        cases d with
        | dic ks' es => simp [dicD, e] at h; obtain ⟨rfl, rfl⟩ := h; obtain ⟨a', xs, e1, q1, l, t⟩ := cr; exact ⟨a', xs, e1, q1.1, l, t⟩
        | _ => simp [dicD, e] at h
      | _ => simp [dicD, e] at h
  | _ => simp [dicD] at h
/-! ### truth -/
def truD (μ : Mem) (d : D) : Option Bool := match d with
  | .non => some false
  | .bl b => some b
  | .int i => some (i != 0)
  | .str x => if x.length ≤ sizeLine then some (decide (x.length ≠ 0)) else none
  | .tup ds => some (!ds.isEmpty)
  | d => (lstD μ d).map fun ds => !ds.isEmpty
theorem RepL.empty {g : G} {ds : List D} {xs : List V} (h : RepL g ds xs) : ds.isEmpty = xs.isEmpty := by
  have := h.length
  cases ds <;> cases xs <;> simp_all
theorem truD_lst {g : G} (m : MemOk g) {d : D} {v : V} {ds : List D} (r : Rep g d v) (h : lstD g.μ d = some ds) : TruV g.K v g.H (!ds.isEmpty) := by
  obtain ⟨a, xs, rfl, q, t⟩ := lstD_rep m r h
  exact .inl ⟨xs, q, by rw [t.empty]⟩
theorem truD_map {g : G} (m : MemOk g) {d : D} {v : V} {k : Bool} (r : Rep g d v) (h : ((lstD g.μ d).map fun ds => !ds.isEmpty) = some k) : TruV g.K v g.H k := by
  cases e : lstD g.μ d with
  | none => rw [e] at h; cases h
  | some ds => rw [e] at h; cases h; exact truD_lst m r e
theorem truD_ok {g : G} (m : MemOk g) {d : D} {v : V} {k : Bool} (r : Rep g d v) (h : truD g.μ d = some k) : TruV g.K v g.H k := by
  cases d with
  | non => cases h; cases r; rfl
  | bl b => cases h; cases r; rfl
  | int i => cases h; cases r; rfl
  | str x =>
    have r' : v = .str x := r
    subst r'
    simp only [truD] at h
    split at h
    · rename_i hl
      cases h
      refine ⟨hl, ?_⟩
      by_cases e : x.length = 0
      · rw [e]; rfl
      · have : ((x.length : Int) != 0) = true := by simp; omega
        rw [this]; simp [e]
    · cases h
  | tup ds =>
    cases h
    obtain ⟨a, xs, rfl, q, t⟩ := r
    exact .inr (.inl ⟨xs, q.sq, by rw [t.empty]⟩)
  | lst ds => exact truD_map m r h
  | sq ds => exact truD_map m r h
  | dic ks vs => exact truD_map m r h
  | obj n => exact truD_map m r h
  | exn c ks vs => exact truD_map m r h

/-! ### tests -/
def fTru (f : Sem) : SemT := fun ρ μ => (f ρ μ).bind fun d μ => R.ofP μ (truD μ d)
abbrev Cm := D → D → Mem → Option Bool
def fCmp (c : Cm) (a b : Sem) : Sem := fun ρ μ => (a ρ μ).bind fun x μ => (b ρ μ).bind fun y μ => R.ofP μ ((c x y μ).map D.bl)
def tCmp (c : Cm) (a b : Sem) : SemT := fun ρ μ => (a ρ μ).bind fun x μ => (b ρ μ).bind fun y μ => R.ofP μ (c x y μ)
def fChain (c c' : Cm) (a b e : Sem) : Sem := fun ρ μ => (a ρ μ).bind fun x μ => (b ρ μ).bind fun y μ => (R.ofP μ (c x y μ)).bind fun k μ => if k = true then (e ρ μ).bind fun z μ => R.ofP μ ((c' y z μ).map D.bl) else .ok (.bl false) μ
def tChain (c c' : Cm) (a b e : Sem) : SemT := fun ρ μ => (a ρ μ).bind fun x μ => (b ρ μ).bind fun y μ => (R.ofP μ (c x y μ)).bind fun k μ => if k = true then (e ρ μ).bind fun z μ => R.ofP μ (c' y z μ) else .ok false μ
def tAnd (a b : SemT) : SemT := fun ρ μ => (a ρ μ).bind fun k μ => if k = true then b ρ μ else .ok false μ
def tOr (a b : SemT) : SemT := fun ρ μ => (a ρ μ).bind fun k μ => if k = true then .ok true μ else b ρ μ
def tNot (a : SemT) : SemT := fun ρ μ => (a ρ μ).bind fun k μ => .ok (!k) μ
/-- and, or, not as values: of truth values alone -/
def blD : D → Option Bool
  | .bl b => some b
  | _ => none
def fAnd (a b : Sem) : Sem := fun ρ μ => (a ρ μ).bind fun x μ => (R.ofP μ (blD x)).bind fun k μ => if k = true then b ρ μ else .ok (.bl false) μ
def fOr (a b : Sem) : Sem := fun ρ μ => (a ρ μ).bind fun x μ => (R.ofP μ (blD x)).bind fun k μ => if k = true then .ok (.bl true) μ else b ρ μ
def fNot (a : SemT) : Sem := fun ρ μ => (a ρ μ).bind fun k μ => .ok (.bl (!k)) μ
def rB2 (F : Fx) (c : Cm) : R2 := fun x y H Q => ∃ (g : G) (a b : D) (k : Bool), g.fx = F ∧ g.H = H ∧ MemOk g ∧ Rep g a x ∧ Rep g b y ∧ c a b g.μ = some k ∧ Q (.bl k) H
theorem ofP_bind {α β : Type} {μ : Mem} {o : Option α} {k : α → Mem → R β} {E : XK} {g : G} {γ : Type} {RR : G → β → γ → Prop} {Q : γ → Hp → Prop} (h : Out RR E g ((R.ofP μ o).bind k) Q) : ∃ a, o = some a ∧ Out RR E g (k a μ) Q := by
  cases o with
  | none => exact h.elim
  | some a => exact ⟨a, rfl, h⟩
theorem ofP_map {g : G} {o : Option Bool} {E : XK} {Q : VK} (h : Out Rep E g (R.ofP g.μ (o.map D.bl)) Q) (m : MemOk g) : ∃ k, o = some k ∧ Q (.bl k) g.H := by
  cases o with
  | none => exact h.elim
  | some k => exact ⟨k, rfl, Out.here (a := D.bl k) h m rfl⟩
theorem ofP_t {g : G} {o : Option Bool} {E : XK} {Q : Bool → Hp → Prop} (h : Out RepB E g (R.ofP g.μ o) Q) (m : MemOk g) : ∃ k, o = some k ∧ Q k g.H := by
  cases o with
  | none => exact h.elim
  | some k => exact ⟨k, rfl, Out.here (a := k) h m rfl⟩
section
variable {X : Cx} {F : Fx} {W : WX} {a b c e : Expr} {fa fb fc fe : Sem} {ta tb : SemT} {f : SemA} {pos : Pos} {rest : List Expr}
theorem se_cmp {op : CmpOp} {cm : Cm} (ho : OpR X (compareOp op) (rB2 F cm)) (ha : SE X F W a fa) (hb : SE X F W b fb) (hm : behindInMarks op b = false := by first | exact nomark _ | rfl) : SE X F W (.Compare a [op] [b] pos) (fCmp cm fa fb) :=
  PE.imp (pe_cmpR ho ha hb hm) fun σ H Q h => tW.bind h fun g ρ x v e m w r o =>
    ⟨g, ρ, e, rfl, m, w, o.bind fun y g1 u m1 x1 r1 o1 => by
      obtain ⟨k, e2, q⟩ := ofP_map o1 m1
      exact ⟨g1, x, y, k, x1.fx.trans e, rfl, m1, r.mono x1, r1, e2, q⟩⟩
theorem st_cmp {op : CmpOp} {cm : Cm} (ho : OpR X (compareOp op) (rB2 F cm)) (ha : SE X F W a fa) (hb : SE X F W b fb) (hm : behindInMarks op b = false := by first | exact nomark _ | rfl) : ST X F W (.Compare a [op] [b] pos) (tCmp cm fa fb) :=
  PT.imp (pt_cmpR ho ha hb hm) fun σ H Q h => tW.bind h fun g ρ x v e m w r o =>
    ⟨g, ρ, e, rfl, m, w, o.bind fun y g1 u m1 x1 r1 o1 => by
      obtain ⟨k, e2, q⟩ := ofP_t o1 m1
      exact ⟨g1, x, y, k, x1.fx.trans e, rfl, m1, r.mono x1, r1, e2, k, rfl, q⟩⟩
theorem se_chain {op op' : CmpOp} {cm cm' : Cm} (ho : OpR X (compareOp op) (rB2 F cm)) (ho' : OpR X (compareOp op') (rB2 F cm')) (ha : SE X F W a fa) (hb : SE X F W b fb) (hc : SE X F W c fc) (hm : lastMarks [op, op'] [b, c] = false := by rfl) : SE X F W (.Compare a [op, op'] [b, c] pos) (fChain cm cm' fa fb fc) :=
  PE.imp (pe_chain ho ho' ha hb hc hm) fun σ H Q h => tW.bind h fun g ρ x v e m w r o =>
    ⟨g, ρ, e, rfl, m, w, o.bind fun y g1 u m1 x1 r1 o1 => by
      obtain ⟨k, e2, o2⟩ := ofP_bind o1
      refine ⟨g1, x, y, k, x1.fx.trans e, rfl, m1, r.mono x1, r1, e2, k, rfl, ?_⟩
      cases k with
      | true =>
        refine iteT ⟨g1, ρ, x1.fx.trans e, rfl, m1, w.mono x1, ?_⟩
        have o3 : Out Rep (fun c d H' => W c d σ H') g1 ((fc ρ g1.μ).bind fun z μ => R.ofP μ ((cm' y z μ).map D.bl)) Q := o2
        refine o3.bind fun z g2 w2 m2 x2 r2 o4 => ?_
        obtain ⟨k2, e3, q⟩ := ofP_map o4 m2
        exact ⟨g2, y, z, k2, x2.fx.trans (x1.fx.trans e), rfl, m2, r1.mono x2, r2, e3, q⟩
      | false => exact iteF (Out.here (a := D.bl false) o2 m1 rfl)⟩
theorem st_chain {op op' : CmpOp} {cm cm' : Cm} (ho : OpR X (compareOp op) (rB2 F cm)) (ho' : OpR X (compareOp op') (rB2 F cm')) (ha : SE X F W a fa) (hb : SE X F W b fb) (hc : SE X F W c fc) (hm : lastMarks [op, op'] [b, c] = false := by rfl) : ST X F W (.Compare a [op, op'] [b, c] pos) (tChain cm cm' fa fb fc) :=
  PT.imp (pt_chain ho ho' ha hb hc hm) fun σ H Q h => tW.bind h fun g ρ x v e m w r o =>
    ⟨g, ρ, e, rfl, m, w, o.bind fun y g1 u m1 x1 r1 o1 => by
      obtain ⟨k, e2, o2⟩ := ofP_bind o1
      refine ⟨g1, x, y, k, x1.fx.trans e, rfl, m1, r.mono x1, r1, e2, k, rfl, ?_⟩
      cases k with
      | true =>
        refine iteT ⟨g1, ρ, x1.fx.trans e, rfl, m1, w.mono x1, ?_⟩
        have o3 : Out RepB (fun c d H' => W c d σ H') g1 ((fc ρ g1.μ).bind fun z μ => R.ofP μ (cm' y z μ)) Q := o2
        refine o3.bind fun z g2 w2 m2 x2 r2 o4 => ?_
        obtain ⟨k2, e3, q⟩ := ofP_t o4 m2
        exact ⟨g2, y, z, k2, x2.fx.trans (x1.fx.trans e), rfl, m2, r1.mono x2, r2, e3, k2, rfl, q⟩
      | false => exact iteF ⟨false, rfl, Out.here (a := false) o2 m1 rfl⟩⟩
theorem st_tru (hF : F.K = X.K) (ha : SE X F W a fa) (he : ∀ whole, isTrue a X.env whole = (do let v ← whole; standAt a.pos; holding [v] (truthy v)) := by intro _; rfl) : ST X F W a (fTru fa) :=
  PT.imp (pt_truth ha he) fun σ H Q h => tW.bind h fun g ρ x v e m w r o => by
    obtain ⟨k, e2, q⟩ := ofP_t o m
    refine ⟨k, ?_, q⟩
    have : g.K = X.K := by rw [← hF, ← e]; rfl
    rw [← this]
    exact truD_ok m r e2
/-- .. whose test is its own -/
theorem st_not (ha : ST X F W a ta) : ST X F W (.UnaryOp .Not a pos) (tNot ta) :=
  PT.imp (pt_not ha) fun σ H Q h => tW.bind h fun g ρ x v e m w r o => by
    cases r
    exact o.here m rfl
def SW (X : Cx) (F : Fx) (W : WX) (e : Expr) (f : SemT) : Prop := PW X e (tT F W f)
theorem SW.st (h : SW X F W e ta) : ST X F W e ta := PW.pt h
theorem sw_and1 (ha : ST X F W a ta) : SW X F W (.BoolOp .And [a] pos) ta := pw_and1 ha
theorem sw_or1 (ha : ST X F W a ta) : SW X F W (.BoolOp .Or [a] pos) ta := pw_or1 ha
theorem sw_and (ha : ST X F W a ta) (hb : SW X F W (.BoolOp .And (b :: rest) pos) tb) : SW X F W (.BoolOp .And (a :: b :: rest) pos) (tAnd ta tb) :=
  PW.imp (pw_and ha hb) fun σ H Q h => tW.bind h fun g ρ v x e m w r o => by
    cases r
    cases v with
    | true => exact iteT ⟨g, ρ, e, rfl, m, w, o⟩
    | false => exact iteF (Out.here (a := false) o m rfl)
theorem sw_or (ha : ST X F W a ta) (hb : SW X F W (.BoolOp .Or (b :: rest) pos) tb) : SW X F W (.BoolOp .Or (a :: b :: rest) pos) (tOr ta tb) :=
  PW.imp (pw_or ha hb) fun σ H Q h => tW.bind h fun g ρ v x e m w r o => by
    cases r
    cases v with
    | true => exact iteT (Out.here (a := true) o m rfl)
    | false => exact iteF ⟨g, ρ, e, rfl, m, w, o⟩
theorem blD_some {g : G} {d : D} {v : V} {k : Bool} (r : Rep g d v) (h : blD d = some k) : v = .bl k := by
  cases d with
  | bl b => cases h; exact r
  | _ => simp [blD] at h
theorem se_one {op : BoolOp} (ha : SE X F W a fa) : SE X F W (.BoolOp op [a] pos) fa := pe_one ha
theorem se_and (ha : SE X F W a fa) (hb : SE X F W (.BoolOp .And (b :: rest) pos) fb) : SE X F W (.BoolOp .And (a :: b :: rest) pos) (fAnd fa fb) :=
  PE.imp (pe_and ha hb) fun σ H Q h => tW.bind h fun g ρ x v e m w r o => by
    obtain ⟨k, e2, o2⟩ := ofP_bind o
    refine ⟨k, blD_some r e2, ?_⟩
    cases k with
    | true => exact iteT ⟨g, ρ, e, rfl, m, w, o2⟩
    | false => exact iteF (Out.here (a := D.bl false) o2 m rfl)
theorem se_or (ha : SE X F W a fa) (hb : SE X F W (.BoolOp .Or (b :: rest) pos) fb) : SE X F W (.BoolOp .Or (a :: b :: rest) pos) (fOr fa fb) :=
  PE.imp (pe_or ha hb) fun σ H Q h => tW.bind h fun g ρ x v e m w r o => by
    obtain ⟨k, e2, o2⟩ := ofP_bind o
    refine ⟨k, blD_some r e2, ?_⟩
    cases k with
    | true => exact iteT (Out.here (a := D.bl true) o2 m rfl)
    | false => exact iteF ⟨g, ρ, e, rfl, m, w, o2⟩
theorem se_ifExp (hc : ST X F W c ta) (ha : SE X F W a fa) (hb : SE X F W b fb) : SE X F W (.IfExp c a b pos) (fIf ta fa fb) :=
  PE.imp (pe_ifExp hc ha hb) fun σ H Q h => tW.bind h fun g ρ v x e m w r o => by
    cases r
    cases v with
    | true => exact iteT ⟨g, ρ, e, rfl, m, w, o⟩
    | false => exact iteF ⟨g, ρ, e, rfl, m, w, o⟩
end
end Z

namespace Z
open PySem PySem.Spec PyProof.Rows L2

/-! ### arithmetic -/
def dAdd (x y : D) (μ : Mem) : R D := match x, y with
  | .int a, .int b => .ok (.int (a + b)) μ
  | .str a, .str b => if a.length + b.length ≤ sizeLine then .ok (.str (a ++ b)) μ else .bad
  | .tup a, .tup b => if a.isEmpty = false ∧ a.length + b.length ≤ sizeLine then .ok (.tup (a ++ b)) μ else .bad
  | x, y => match lstW μ x, lstW μ y with
    | some a, some b => if a.length + b.length ≤ sizeLine then .ok (.lst (a ++ b)) μ else .bad
    | _, _ => .bad
def dSub (x y : D) (μ : Mem) : R D := match x, y with
  | .int a, .int b => .ok (.int (a - b)) μ
  | _, _ => .bad
def dMul (x y : D) (μ : Mem) : R D := match x, y with
  | .int a, .int b => if a.natAbs.log2 + b.natAbs.log2 < 1000000 then .ok (.int (a * b)) μ else .bad
  | x, .int k => match lstW μ x with
    | some a => if -(2 ^ 63) ≤ k ∧ k < 2 ^ 63 ∧ a.length * k.toNat ≤ sizeLine then .ok (.lst (List.replicate k.toNat a).flatten) μ else .bad
    | none => .bad
  | _, _ => .bad
def dDiv (x y : D) (μ : Mem) : R D := match x, y with
  | .int a, .int b => if 0 < b ∧ b.natAbs.log2 < 9000 then .ok (.int (a / b)) μ else .bad
  | _, _ => .bad
def dMod (x y : D) (μ : Mem) : R D := match x, y with
  | .int a, .int b => if 0 < b then .ok (.int (a % b)) μ else .bad
  | _, _ => .bad
def dPow (x y : D) (μ : Mem) : R D := match x, y with
  | .int a, .int b => if 0 ≤ b ∧ b ≤ 1000000 ∧ a.natAbs < 2 ^ 64 then .ok (.int (a ^ b.toNat)) μ else .bad
  | _, _ => .bad
def dXor (x y : D) (μ : Mem) : R D := match x, y with
  | .int a, .int b => .ok (.int (Builtin.bitXor a b)) μ
  | _, _ => .bad
def dNeg (x : D) (μ : Mem) : R D := match x with
  | .int a => .ok (.int (-a)) μ
  | _ => .bad
theorem c_ok {α : Type} {a : α} {μ : Mem} : (R.ok a μ).calm := trivial
theorem c_bad {α : Type} : (R.bad : R α).calm := trivial
theorem c_ite {α : Type} {c : Prop} [Decidable c] {a b : R α} (ha : a.calm) (hb : b.calm) : (if c then a else b).calm := by split <;> assumption
theorem cm_add (x y : D) (μ : Mem) : (dAdd x y μ).calm := by cases x <;> cases y <;> dsimp only [dAdd] <;> (repeat' split) <;> trivial
theorem cm_sub (x y : D) (μ : Mem) : (dSub x y μ).calm := by cases x <;> cases y <;> dsimp only [dSub] <;> (repeat' split) <;> trivial
theorem cm_mul (x y : D) (μ : Mem) : (dMul x y μ).calm := by cases x <;> cases y <;> dsimp only [dMul] <;> (repeat' split) <;> trivial
theorem cm_div (x y : D) (μ : Mem) : (dDiv x y μ).calm := by cases x <;> cases y <;> dsimp only [dDiv] <;> (repeat' split) <;> trivial
theorem cm_mod (x y : D) (μ : Mem) : (dMod x y μ).calm := by cases x <;> cases y <;> dsimp only [dMod] <;> (repeat' split) <;> trivial
theorem cm_pow (x y : D) (μ : Mem) : (dPow x y μ).calm := by cases x <;> cases y <;> dsimp only [dPow] <;> (repeat' split) <;> trivial
theorem cm_xor (x y : D) (μ : Mem) : (dXor x y μ).calm := by cases x <;> cases y <;> dsimp only [dXor] <;> (repeat' split) <;> trivial
theorem cm_neg (x : D) (μ : Mem) : (dNeg x μ).calm := by unfold dNeg; repeat' split; all_goals trivial
theorem rEmpty {ds : List D} {g : G} {xs : List V} (r : RepL g ds xs) (h : ds.isEmpty = false) : xs ≠ [] := fun z => by
  subst z
  have := r.length
  cases ds <;> simp_all
theorem nil_of {g : G} {ds : List D} (r : RepL g ds []) : ds = [] := by
  have := r.length
  cases ds <;> simp_all
theorem flat_rep {g : G} {ds : List D} {xs : List V} (r : RepL g ds xs) : ∀ k : Nat, RepL g (List.replicate k ds).flatten (List.replicate k xs).flatten
  | 0 => RepL.nil
  | k + 1 => by
    rw [List.replicate_succ, List.replicate_succ, List.flatten_cons, List.flatten_cons]
    exact r.app (flat_rep r k)
/-- a new tree list -/
theorem out_lst {g : G} {E : XK} {ds : List D} {xs : List V} {Q : VK} (o : Out Rep E g (.ok (.lst ds) g.μ) Q) (m : MemOk g) (r : RepL g ds xs) (p : Addr) (hp : g.H p = none) : Q (.ref p) (upd g.H p (.lst xs)) :=
  o (g.put p (.lst xs)) (.ref p) rfl (m.put hp) (Ext.put hp (m.fresh hp).2.1) (put_lst m hp r)
theorem out_tup {g : G} {E : XK} {ds : List D} {xs : List V} {Q : VK} (o : Out Rep E g (.ok (.tup ds) g.μ) Q) (m : MemOk g) (r : RepL g ds xs) (p : Addr) (hp : g.H p = none) : Q (.ref p) (upd g.H p (.tup xs)) :=
  o (g.put p (.tup xs)) (.ref p) rfl (m.put hp) (Ext.put hp (m.fresh hp).2.1) (put_tup m hp r)
section
variable {X : Cx} {F : Fx}
theorem od_add (hF : F.K = X.K) : OpR X (binaryOp .Add) (rD2 F dAdd) := by
  intro pins s σ H x y v u Q I rx ry h
  obtain ⟨g, a, b, e, rfl, m, ra, rb, o⟩ := h
  have eK : g.K = X.K := by rw [← hF, ← e]; rfl
  unfold dAdd at o
  split at o
  · cases ra; cases rb
    exact op_add pins s σ g.H _ _ v u Q I rx ry ⟨_, _, rfl, rfl, o.here m rfl⟩
  · cases ra; cases rb
    split at o
    · exact op_add_str pins s σ g.H _ _ v u Q I rx ry ⟨_, _, rfl, rfl, by assumption, o.here m rfl⟩
    · exact o.elim
  · split at o
    · rename_i ds es hc
      obtain ⟨p, xs, rfl, q1, r1⟩ := ra
      obtain ⟨p2, ys, rfl, q2, r2⟩ := rb
      refine op_catT pins s σ g.H _ _ v u Q I rx ry ⟨p, p2, xs, ys, rfl, rfl, eK ▸ q1.sq, eK ▸ q2.sq, rEmpty r1 hc.1, by rw [← r1.length, ← r2.length]; exact hc.2, fun z => ?_, fun _ w hw => out_tup o m (r1.app r2) w hw⟩
      subst z
      have : es = [] := nil_of r2
      subst this
      rw [List.append_nil] at o
      exact o.here m ⟨p, xs, rfl, q1, r1⟩
    · exact o.elim
  · split at o
    · rename_i ds es h1 h2
      split at o
      · obtain ⟨p, xs, rfl, q1, r1⟩ := lstW_rep m ra h1
        obtain ⟨p2, ys, rfl, q2, r2⟩ := lstW_rep m rb h2
        exact op_cat pins s σ g.H _ _ v u Q I rx ry ⟨p, p2, xs, ys, rfl, rfl, q1, q2, by rw [← r1.length, ← r2.length]; assumption, fun w hw => out_lst o m (r1.app r2) w hw⟩
      · exact o.elim
    · exact o.elim
theorem od_sub : OpR X (binaryOp .Sub) (rD2 F dSub) := by
  intro pins s σ H x y v u Q I rx ry h
  obtain ⟨g, a, b, e, rfl, m, ra, rb, o⟩ := h
  unfold dSub at o
  split at o
  · cases ra; cases rb
    exact op_sub pins s σ g.H _ _ v u Q I rx ry ⟨_, _, rfl, rfl, o.here m rfl⟩
  · exact o.elim
theorem od_mul : OpR X (binaryOp .Mult) (rD2 F dMul) := by
  intro pins s σ H x y v u Q I rx ry h
  obtain ⟨g, a, b, e, rfl, m, ra, rb, o⟩ := h
  unfold dMul at o
  split at o
  · cases ra; cases rb
    split at o
    · exact op_mulW pins s σ g.H _ _ v u Q I rx ry ⟨_, _, rfl, rfl, by assumption, o.here m rfl⟩
    · exact o.elim
  · cases rb
    split at o
    · rename_i ds h1
      split at o
      · rename_i hc
        obtain ⟨p, xs, rfl, q1, r1⟩ := lstW_rep m ra h1
        exact op_rep pins s σ g.H _ _ v u Q I rx ry ⟨p, _, xs, rfl, rfl, q1, hc.1, hc.2.1, by rw [← r1.length]; exact hc.2.2, fun w hw => out_lst o m (flat_rep r1 _) w hw⟩
      · exact o.elim
    · exact o.elim
  · exact o.elim
theorem od_div : OpR X (binaryOp .FloorDiv) (rD2 F dDiv) := by
  intro pins s σ H x y v u Q I rx ry h
  obtain ⟨g, a, b, e, rfl, m, ra, rb, o⟩ := h
  unfold dDiv at o
  split at o
  · cases ra; cases rb
    split at o
    · exact op_fdivW pins s σ g.H _ _ v u Q I rx ry ⟨_, _, rfl, rfl, by assumption, o.here m rfl⟩
    · exact o.elim
  · exact o.elim
theorem od_mod : OpR X (binaryOp .Mod) (rD2 F dMod) := by
  intro pins s σ H x y v u Q I rx ry h
  obtain ⟨g, a, b, e, rfl, m, ra, rb, o⟩ := h
  unfold dMod at o
  split at o
  · cases ra; cases rb
    split at o
    · exact op_mod pins s σ g.H _ _ v u Q I rx ry ⟨_, _, rfl, rfl, by assumption, o.here m rfl⟩
    · exact o.elim
  · exact o.elim
theorem od_pow : OpR X (binaryOp .Pow) (rD2 F dPow) := by
  intro pins s σ H x y v u Q I rx ry h
  obtain ⟨g, a, b, e, rfl, m, ra, rb, o⟩ := h
  unfold dPow at o
  split at o
  · cases ra; cases rb
    split at o
    · exact op_pow pins s σ g.H _ _ v u Q I rx ry ⟨_, _, rfl, rfl, by assumption, o.here m rfl⟩
    · exact o.elim
  · exact o.elim
theorem od_xor : OpR X (binaryOp .BitXor) (rD2 F dXor) := by
  intro pins s σ H x y v u Q I rx ry h
  obtain ⟨g, a, b, e, rfl, m, ra, rb, o⟩ := h
  unfold dXor at o
  split at o
  · cases ra; cases rb
    exact op_xor pins s σ g.H _ _ v u Q I rx ry ⟨_, _, rfl, rfl, o.here m rfl⟩
  · exact o.elim
theorem od_neg : UnR X (unaryOp .USub) (rD1 F dNeg) := by
  intro pins s σ H x v Q I rx h
  obtain ⟨g, a, e, rfl, m, ra, o⟩ := h
  unfold dNeg at o
  split at o
  · cases ra
    exact un_neg pins s σ g.H _ v Q I rx ⟨_, rfl, o.here m rfl⟩
  · exact o.elim
end

/-! ### == of data -/
mutual
def D.py : D → PyData
  | .non => .none
  | .bl b => .bool b
  | .int i => .int i
  | .str x => .str x
  | .tup ds => .tuple (D.pys ds)
  | .lst ds => .list (D.pys ds)
  | .sq ds => .list (D.pys ds)
  | .dic _ _ => .none
  | .obj _ => .none
  | .exn _ _ _ => .none
def D.pys : List D → List PyData
  | [] => []
  | d :: ds => D.py d :: D.pys ds
end
/-! data without handles and dicts, at most so deep -/
mutual
def D.fit : Nat → D → Bool
  | _, .non => true
  | _, .bl _ => true
  | _, .int _ => true
  | _, .str _ => true
  | n + 1, .tup ds => D.fits n ds
  | n + 1, .lst ds => D.fits n ds
  | n + 1, .sq ds => D.fits n ds
  | _, _ => false
def D.fits : Nat → List D → Bool
  | _, [] => true
  | n, d :: ds => D.fit n d && D.fits n ds
end
theorem D.fits_all (n : Nat) : ∀ ds : List D, D.fits n ds = ds.all (D.fit n)
  | [] => by simp [D.fits]
  | d :: ds => by rw [D.fits, D.fits_all n ds, List.all_cons]
theorem D.pys_map : ∀ ds : List D, D.pys ds = ds.map D.py
  | [] => by simp [D.pys]
  | d :: ds => by rw [D.pys, D.pys_map ds, List.map_cons]
mutual
theorem fit_plain : ∀ (n : Nat) (d : D), D.fit n d = true → d.py.plain = true ∧ d.py.depth ≤ n
  | n, .non, _ => ⟨rfl, by simp [D.py, PyData.depth]⟩
  | n, .bl _, _ => ⟨rfl, by simp [D.py, PyData.depth]⟩
  | n, .int _, _ => ⟨rfl, by simp [D.py, PyData.depth]⟩
  | n, .str _, _ => ⟨rfl, by simp [D.py, PyData.depth]⟩
  | 0, .tup _, h => by simp [D.fit] at h
  | 0, .lst _, h => by simp [D.fit] at h
  | 0, .sq _, h => by simp [D.fit] at h
  | n + 1, .tup ds, h => by
    have := fits_plain n ds (by simpa [D.fit] using h)
    exact ⟨by simpa [D.py, PyData.plain] using this.1, by simp only [D.py, PyData.depth]; omega⟩
  | n + 1, .lst ds, h => by
    have := fits_plain n ds (by simpa [D.fit] using h)
    exact ⟨by simpa [D.py, PyData.plain] using this.1, by simp only [D.py, PyData.depth]; omega⟩
  | n + 1, .sq ds, h => by
    have := fits_plain n ds (by simpa [D.fit] using h)
    exact ⟨by simpa [D.py, PyData.plain] using this.1, by simp only [D.py, PyData.depth]; omega⟩
  | n, .dic _ _, h => by cases n <;> simp [D.fit] at h
  | n, .obj _, h => by cases n <;> simp [D.fit] at h
  | n, .exn _ _ _, h => by cases n <;> simp [D.fit] at h
theorem fits_plain : ∀ (n : Nat) (ds : List D), D.fits n ds = true → PyData.plainAll (D.pys ds) = true ∧ PyData.depthAll (D.pys ds) ≤ n
  | n, [], _ => ⟨rfl, by simp [D.pys, PyData.depthAll]⟩
  | n, d :: ds, h => by
    simp only [D.fits, Bool.and_eq_true] at h
    have a := fit_plain n d h.1
    have b := fits_plain n ds h.2
    refine ⟨by simp [D.pys, PyData.plainAll, a.1, b.1], ?_⟩
    simp only [D.pys, PyData.depthAll]
    have := a.2
    have := b.2
    omega
end
mutual
theorem fit_dp {g : G} : ∀ (n : Nat) (d : D) (v : V), D.fit n d = true → Rep g d v → Dp g.K g.H v d.py
  | n, .non, v, _, r => by cases r; exact .non
  | n, .bl b, v, _, r => by cases r; exact .bl b
  | n, .int i, v, _, r => by cases r; exact .int i
  | n, .str x, v, _, r => by cases r; exact .str x
  | 0, .tup _, _, h, _ => by simp [D.fit] at h
  | 0, .lst _, _, h, _ => by simp [D.fit] at h
  | 0, .sq _, _, h, _ => by simp [D.fit] at h
  | n + 1, .tup ds, v, h, r => by
    obtain ⟨a, xs, rfl, q, t⟩ := r
    exact .tup q.sq (fits_dp n ds xs (by simpa [D.fit] using h) t)
  | n + 1, .lst ds, v, h, r => by
    obtain ⟨a, xs, rfl, q, t⟩ := r
    exact .lst q.sq (fits_dp n ds xs (by simpa [D.fit] using h) t)
  | n + 1, .sq ds, v, h, r => by
    obtain ⟨a, xs, rfl, q, t⟩ := r
    exact .lst q.sq (fits_dp n ds xs (by simpa [D.fit] using h) t)
  | n, .dic _ _, _, h, _ => by cases n <;> simp [D.fit] at h
  | n, .obj _, _, h, _ => by cases n <;> simp [D.fit] at h
  | n, .exn _ _ _, _, h, _ => by cases n <;> simp [D.fit] at h
theorem fits_dp {g : G} : ∀ (n : Nat) (ds : List D) (vs : List V), D.fits n ds = true → RepL g ds vs → DpAll g.K g.H vs (D.pys ds)
  | n, [], _, _, r => by cases r; exact .nil
  | n, d :: ds, _, h, r => by
    obtain ⟨v, vs, rfl, r1, r2⟩ := r
    simp only [D.fits, Bool.and_eq_true] at h
    exact .cons (fit_dp n d v h.1 r1) (fits_dp n ds vs h.2 r2)
end
/-- a handle as the tree it is now -/
def resD (μ : Mem) (d : D) : D := match d with
  | .obj n => match lstW μ (.obj n) with
    | some ds => .lst ds
    | none => .obj n
  | d => d
theorem res_dp {g : G} (m : MemOk g) {d : D} {v : V} (h : D.fit 9 (resD g.μ d) = true) (r : Rep g d v) : Dp g.K g.H v (resD g.μ d).py := by
  cases d with
  | obj n =>
    cases e : lstW g.μ (.obj n) with
    | none => simp only [resD, e] at h; simp [D.fit] at h
    | some ds =>
      simp only [resD, e] at h ⊢
      obtain ⟨a, xs, rfl, q, t⟩ := lstW_rep m r e
      exact .lst (.inl (.inl q)) (fits_dp 8 ds xs (by simpa [D.fit] using h) t)
  | _ => exact fit_dp 9 _ v h r
def D.eqb (a b : D) : Bool := PyData.eqv a.py b.py
def dEq : Cm := fun x y μ => if D.fit 9 (resD μ x) = true ∧ D.fit 9 (resD μ y) = true then some (D.eqb (resD μ x) (resD μ y)) else none
def dNe : Cm := fun x y μ => (dEq x y μ).map not
def dLt : Cm := fun x y μ => match x, y with
  | .int a, .int b => some (decide (a < b))
  | .str a, .str b => some (decide (a.cps.toList < b.cps.toList))
  | _, _ => none
def dGt : Cm := fun x y μ => match x, y with
  | .int a, .int b => some (decide (b < a))
  | .str a, .str b => some (decide (b.cps.toList < a.cps.toList))
  | _, _ => none
def dLe : Cm := fun x y _ => match x, y with
  | .int a, .int b => some (decide (a ≤ b))
  | _, _ => none
def dGe : Cm := fun x y _ => match x, y with
  | .int a, .int b => some (decide (b ≤ a))
  | _, _ => none
def isNon : D → Bool
  | .non => true
  | _ => false
/-- is None; is True (of truth values) -/
def dIs : Cm := fun x y _ => match y with
  | .non => some (isNon x)
  | .bl b => (blD x).map fun a => decide (a = b)
  | _ => none
def dIsNot : Cm := fun x y μ => (dIs x y μ).map not
def keyD : D → Option Key
  | .int i => some (.inl i)
  | .str x => some (.inr x)
  | _ => none
def strIn (x y : Str) : Bool := match x.cps.toList with
  | [c] => decide (c ∈ y.cps.toList)
  | _ => !(Builtin.Str.occurrences y x 0 y.length 1).isEmpty
def dIn : Cm := fun x y μ => match x, y with
  | .str a, .str b => some (strIn a b)
  | x, .tup ds => if D.fits 8 ds = true ∧ D.fit 9 (resD μ x) = true then some (ds.any fun z => D.eqb z (resD μ x)) else none
  | x, y => match lstD μ y with
    | some ds => if D.fits 8 ds = true ∧ D.fit 9 (resD μ x) = true then some (ds.any fun z => D.eqb z (resD μ x)) else none
    | none => match dicD μ y, keyD x with
      | some (ks, _), some k => some (ks.any fun j => decide (j = k))
      | _, _ => none
def dNotIn : Cm := fun x y μ => (dIn x y μ).map not
theorem map_not {o : Option Bool} {k : Bool} (h : o.map not = some k) : ∃ j, o = some j ∧ k = !j := by
  cases o with
  | none => cases h
  | some j => exact ⟨j, rfl, (Option.some.inj h).symm⟩
theorem keyD_rep {g : G} {d : D} {v : V} {k : Key} (r : Rep g d v) (h : keyD d = some k) : v = kV k := by
  cases d with
  | int i => cases h; exact r
  | str x => cases h; exact r
  | _ => simp [keyD] at h
theorem str_one {a : Str} {c : Nat} (h : a.cps.toList = [c]) : a = ⟨#[c]⟩ := Str.ext' (Array.toList_inj.mp (by rw [h]))
theorem strIn_cases (x y : Str) : (∃ c, x = ⟨#[c]⟩ ∧ strIn x y = decide (c ∈ y.cps.toList)) ∨ strIn x y = !(Builtin.Str.occurrences y x 0 y.length 1).isEmpty := by
  unfold strIn
  split
  · rename_i c h
    exact .inl ⟨c, str_one h, rfl⟩
  · exact .inr rfl
theorem zip_any (ks : List Key) (k : Key) : ∀ (xs : List V), ks.length = xs.length → (valV (ks.zip xs) k).isSome = ks.any fun j => decide (j = k) := by
  intro xs h
  rw [← valV_any]
  induction ks generalizing xs with
  | nil => rfl
  | cons a r ih =>
    cases xs with
    | nil => simp at h
    | cons x t =>
      simp only [List.zip_cons_cons, List.any_cons]
      rw [ih t (by simpa using h)]
section
variable {X : Cx} {F : Fx}
theorem fxK {g : G} (e : g.fx = F) (hF : F.K = X.K) : g.K = X.K := by rw [← hF, ← e]; rfl
theorem oc_eq (hF : F.K = X.K) (hu : X.A.units + 70 < cLine) : OpR X (compareOp .Eq) (rB2 F dEq) := by
  intro pins s σ H x y v u Q I rx ry h
  obtain ⟨g, a, b, k, e, rfl, m, ra, rb, ek, q⟩ := h
  have eK := fxK e hF
  unfold dEq at ek
  split at ek
  · rename_i hc
    cases ek
    obtain ⟨as, r1⟩ := Dp.reads I _ x v (eK ▸ res_dp m hc.1 ra) rx
    obtain ⟨bs, r2⟩ := Dp.reads I _ y u (eK ▸ res_dp m hc.2 rb) ry
    have p1 := fit_plain 9 _ hc.1
    have p2 := fit_plain 9 _ hc.2
    exact SeqAt.eq_plain r1 r2 p1.1 p2.1 (by have := p1.2; omega) ⟨.bl _, g.H, I, rfl, q⟩
  · cases ek
theorem oc_ne (hF : F.K = X.K) (hu : X.A.units + 70 < cLine) : OpR X (compareOp .NotEq) (rB2 F dNe) := by
  intro pins s σ H x y v u Q I rx ry h
  obtain ⟨g, a, b, k, e, rfl, m, ra, rb, ek, q⟩ := h
  have eK := fxK e hF
  obtain ⟨j, ek1, rfl⟩ := map_not ek
  unfold dEq at ek1
  split at ek1
  · rename_i hc
    cases ek1
    obtain ⟨as, r1⟩ := Dp.reads I _ x v (eK ▸ res_dp m hc.1 ra) rx
    obtain ⟨bs, r2⟩ := Dp.reads I _ y u (eK ▸ res_dp m hc.2 rb) ry
    have p1 := fit_plain 9 _ hc.1
    have p2 := fit_plain 9 _ hc.2
    exact SeqAt.ne_plain r1 r2 p1.1 p2.1 (by have := p1.2; omega) ⟨.bl _, g.H, I, rfl, q⟩
  · cases ek1
theorem oc_lt : OpR X (compareOp .Lt) (rB2 F dLt) := by
  intro pins s σ H x y v u Q I rx ry h
  obtain ⟨g, a, b, k, e, rfl, m, ra, rb, ek, q⟩ := h
  unfold dLt at ek
  split at ek
  · cases ra; cases rb; cases ek
    exact op_lt pins s σ g.H _ _ v u Q I rx ry ⟨_, _, rfl, rfl, q⟩
  · cases ra; cases rb; cases ek
    exact op_lt_str pins s σ g.H _ _ v u Q I rx ry ⟨_, _, rfl, rfl, q⟩
  · cases ek
theorem oc_gt : OpR X (compareOp .Gt) (rB2 F dGt) := by
  intro pins s σ H x y v u Q I rx ry h
  obtain ⟨g, a, b, k, e, rfl, m, ra, rb, ek, q⟩ := h
  unfold dGt at ek
  split at ek
  · cases ra; cases rb; cases ek
    exact op_gt pins s σ g.H _ _ v u Q I rx ry ⟨_, _, rfl, rfl, q⟩
  · cases ra; cases rb; cases ek
    exact op_gt_str pins s σ g.H _ _ v u Q I rx ry ⟨_, _, rfl, rfl, q⟩
  · cases ek
theorem oc_le : OpR X (compareOp .LtE) (rB2 F dLe) := by
  intro pins s σ H x y v u Q I rx ry h
  obtain ⟨g, a, b, k, e, rfl, m, ra, rb, ek, q⟩ := h
  unfold dLe at ek
  split at ek
  · cases ra; cases rb; cases ek
    exact op_le pins s σ g.H _ _ v u Q I rx ry ⟨_, _, rfl, rfl, q⟩
  · cases ek
theorem oc_ge : OpR X (compareOp .GtE) (rB2 F dGe) := by
  intro pins s σ H x y v u Q I rx ry h
  obtain ⟨g, a, b, k, e, rfl, m, ra, rb, ek, q⟩ := h
  unfold dGe at ek
  split at ek
  · cases ra; cases rb; cases ek
    exact op_ge pins s σ g.H _ _ v u Q I rx ry ⟨_, _, rfl, rfl, q⟩
  · cases ek
theorem isNon_rep {g : G} {d : D} {v : V} (r : Rep g d v) : decide (v = .non) = isNon d := by
  cases d with
  | non => cases r; rfl
  | bl _ => cases r; rfl
  | int _ => cases r; rfl
  | str _ => cases r; rfl
  | tup _ => obtain ⟨a, xs, rfl, _⟩ := r; rfl
  | lst _ => obtain ⟨a, xs, rfl, _⟩ := r; rfl
  | sq _ => obtain ⟨a, xs, rfl, _⟩ := r; rfl
  | dic _ _ => obtain ⟨a, xs, rfl, _⟩ := r; rfl
  | obj _ => obtain ⟨a, _, rfl⟩ := r; rfl
  | exn _ _ _ => obtain ⟨a, _, _, rfl, _⟩ := r; rfl
theorem oc_is : OpR X (compareOp .Is) (rB2 F dIs) := by
  intro pins s σ H x y v u Q I rx ry h
  obtain ⟨g, a, b, k, e, rfl, m, ra, rb, ek, q⟩ := h
  unfold dIs at ek
  split at ek
  · cases rb; cases ek
    exact op_isN pins s σ g.H _ _ v u Q I rx ry ⟨rfl, by rw [isNon_rep ra]; exact q⟩
  · cases rb
    cases e2 : blD a with
    | none => rw [e2] at ek; cases ek
    | some c =>
      rw [e2] at ek; cases ek
      cases blD_some ra e2
      exact op_isBl pins s σ g.H _ _ v u Q I rx ry ⟨_, _, rfl, rfl, q⟩
  · cases ek
theorem oc_isNot : OpR X (compareOp .IsNot) (rB2 F dIsNot) := by
  intro pins s σ H x y v u Q I rx ry h
  obtain ⟨g, a, b, k, e, rfl, m, ra, rb, ek, q⟩ := h
  obtain ⟨j, ek1, rfl⟩ := map_not ek
  unfold dIs at ek1
  split at ek1
  · cases rb; cases ek1
    exact op_notN pins s σ g.H _ _ v u Q I rx ry ⟨rfl, by rw [isNon_rep ra]; exact q⟩
  · cases rb
    cases e2 : blD a with
    | none => rw [e2] at ek1; cases ek1
    | some c =>
      rw [e2] at ek1; cases ek1
      cases blD_some ra e2
      exact op_notBl pins s σ g.H _ _ v u Q I rx ry ⟨_, _, rfl, rfl, q⟩
  · cases ek1
theorem pys_any (ds : List D) (z : D) : ((D.pys ds).any fun y => PyData.eqv y z.py) = ds.any fun y => D.eqb y z := by
  rw [D.pys_map, List.any_map]; rfl
theorem in_seq (hF : F.K = X.K) (hu : X.A.units + 70 < cLine) {pins : List (Addr × Obj)} {s : Shared} {σ : L2.St} {x y : V} {v u : Value} {g : G} {a : D} {ds : List D} {p : Addr} {xs : List V} {Q : VK} (I : Inv X pins σ g.H s) (rx : RelV x v) (ry : RelV y u) (e : g.fx = F) (m : MemOk g) (ra : Rep g a x)
    (ey : y = .ref p) (t : RepL g ds xs) (hc : D.fits 8 ds = true ∧ D.fit 9 (resD g.μ a) = true) (hs : SqL X.K g.H p xs ∨ SqT X.K g.H p xs) (neg : Bool) (q : Q (.bl (if neg then !(ds.any fun z => D.eqb z (resD g.μ a)) else ds.any fun z => D.eqb z (resD g.μ a))) g.H) :
    wpAny (model X.prog X.w) X.A (compareOp (if neg then .NotIn else .In) v u) (EP X pins σ Q) X.xe s := by
  subst ey
  have eK := fxK e hF
  obtain ⟨as, r1⟩ := Dp.reads I _ x v (eK ▸ res_dp m hc.2 ra) rx
  have p1 := fit_plain 9 _ hc.2
  have p2 := fits_plain 8 ds hc.1
  have dd : DpAll X.K g.H xs (D.pys ds) := eK ▸ fits_dp 8 ds xs hc.1 t
  rcases hs with hs | hs
  · obtain ⟨bs, r2⟩ := Dp.reads I (.list (D.pys ds)) (.ref p) u (.lst hs dd) ry
    cases neg with
    | false => exact SeqAt.in_list_data r2 r1 p2.1 p1.1 (by have := p1.2; omega) ⟨.bl _, g.H, I, rfl, by rw [pys_any]; exact q⟩
    | true => exact SeqAt.notIn_list_data r2 r1 p2.1 p1.1 (by have := p1.2; omega) ⟨.bl _, g.H, I, rfl, by rw [pys_any]; exact q⟩
  · obtain ⟨bs, r2⟩ := Dp.reads I (.tuple (D.pys ds)) (.ref p) u (.tup hs dd) ry
    cases neg with
    | false => exact SeqAt.in_tuple_data r2 r1 p2.1 p1.1 (by have := p1.2; omega) ⟨.bl _, g.H, I, rfl, by rw [pys_any]; exact q⟩
    | true => exact SeqAt.notIn_tuple_data r2 r1 p2.1 p1.1 (by have := p1.2; omega) ⟨.bl _, g.H, I, rfl, by rw [pys_any]; exact q⟩
theorem in_any (hF : F.K = X.K) (hu : X.A.units + 70 < cLine) (neg : Bool) {pins : List (Addr × Obj)} {s : Shared} {σ : L2.St} {x y : V} {v u : Value} {g : G} {a b : D} {k : Bool} {Q : VK} (I : Inv X pins σ g.H s) (rx : RelV x v) (ry : RelV y u) (e : g.fx = F) (m : MemOk g) (ra : Rep g a x) (rb : Rep g b y)
    (ek : dIn a b g.μ = some k) (q : Q (.bl (if neg then !k else k)) g.H) : wpAny (model X.prog X.w) X.A (compareOp (if neg then .NotIn else .In) v u) (EP X pins σ Q) X.xe s := by
  have eK := fxK e hF
  unfold dIn at ek
  split at ek
  · rename_i c z
    cases ra; cases rb
    cases ek
    rcases strIn_cases c z with ⟨c1, hc, e3⟩ | e3
    · subst hc
      rw [e3] at q
      cases neg with
      | false => exact op_in_sign pins s σ g.H _ _ v u Q I rx ry ⟨_, _, rfl, rfl, q⟩
      | true => exact op_notIn_sign pins s σ g.H _ _ v u Q I rx ry ⟨_, _, rfl, rfl, q⟩
    · rw [e3] at q
      cases neg with
      | false => exact op_in_str pins s σ g.H _ _ v u Q I rx ry ⟨_, _, rfl, rfl, q⟩
      | true => exact L2.op_notin_str pins s σ g.H _ _ v u Q I rx ry ⟨_, _, rfl, rfl, q⟩
  · split at ek
    · rename_i hc
      cases ek
      obtain ⟨p, xs, rfl, q1, t⟩ := rb
      exact in_seq hF hu I rx ry e m ra rfl t hc (.inr (eK ▸ q1.sq)) neg q
    · cases ek
  · split at ek
    · rename_i ds hl
      split at ek
      · rename_i hc
        cases ek
        obtain ⟨p, xs, rfl, q1, t⟩ := lstD_rep m rb hl
        exact in_seq hF hu I rx ry e m ra rfl t hc (.inl (eK ▸ q1)) neg q
      · cases ek
    · split at ek
      · rename_i ks vs k1 h1 h2
        cases ek
        obtain ⟨p, xs, rfl, q1, l, t⟩ := dicD_rep m rb h1
        have e3 := keyD_rep ra h2
        subst e3
        obtain rfl : u = Value.ref p := ry
        have dg : DGet g.H p (kV k1) (valV (ks.zip xs) k1) := .inl ⟨_, _, q1, rfl, rfl⟩
        cases neg with
        | false => exact d_in (by omega) I dg rx fun s3 I3 => ⟨.bl _, g.H, I3, rfl, by rw [zip_any ks k1 xs l]; exact q⟩
        | true => exact d_notIn (by omega) I dg rx fun s3 I3 => ⟨.bl _, g.H, I3, rfl, by rw [zip_any ks k1 xs l]; exact q⟩
      · cases ek
theorem oc_in (hF : F.K = X.K) (hu : X.A.units + 70 < cLine) : OpR X (compareOp .In) (rB2 F dIn) := by
  intro pins s σ H x y v u Q I rx ry h
  obtain ⟨g, a, b, k, e, rfl, m, ra, rb, ek, q⟩ := h
  exact in_any hF hu false I rx ry e m ra rb ek q
theorem oc_notIn (hF : F.K = X.K) (hu : X.A.units + 70 < cLine) : OpR X (compareOp .NotIn) (rB2 F dNotIn) := by
  intro pins s σ H x y v u Q I rx ry h
  obtain ⟨g, a, b, k, e, rfl, m, ra, rb, ek, q⟩ := h
  obtain ⟨j, ek1, rfl⟩ := map_not ek
  exact in_any hF hu true I rx ry e m ra rb ek1 q
end
end Z

namespace Z
open PySem PySem.Spec PyProof.Rows L2

inductive RS where
  | next (ρ : Env) (μ : Mem) | ret (d : D) (μ : Mem) | brk (ρ : Env) (μ : Mem) | cont (ρ : Env) (μ : Mem) | exc (e : Ex) (ρ : Env) (μ : Mem) | bad
abbrev SemS := Env → Mem → RS
def R.s {α : Type} (r : R α) (ρ : Env) (k : α → Mem → RS) : RS := match r with
  | .ok a μ => k a μ
  | .exc e μ => .exc e ρ μ
  | .bad => .bad
def OutS (D : Ends) (W : WX) (g : G) (r : RS) : Prop := match r with
  | .next ρ μ => ∀ (g' : G) (σ' : L2.St), g'.μ = μ → MemOk g' → Ext g g' → EnvOk g' ρ σ' → D.nx σ' g'.H
  | .ret d μ => ∀ (g' : G) (v : V), g'.μ = μ → MemOk g' → Ext g g' → Rep g' d v → D.rt v g'.H
  | .brk ρ μ => ∀ (g' : G) (σ' : L2.St), g'.μ = μ → MemOk g' → Ext g g' → EnvOk g' ρ σ' → D.bk σ' g'.H
  | .cont ρ μ => ∀ (g' : G) (σ' : L2.St), g'.μ = μ → MemOk g' → Ext g g' → EnvOk g' ρ σ' → D.ct σ' g'.H
  | .exc e ρ μ => ∀ (g' : G) (σ' : L2.St) (C : Value) (dd : Option Addr), g'.μ = μ → MemOk g' → Ext g g' → EnvOk g' ρ σ' → ExRep g' e C dd → W C dd σ' g'.H
  | .bad => False
theorem OutS.from {D : Ends} {W : WX} {g g1 : G} {r : RS} (h : OutS D W g r) (x : Ext g g1) : OutS D W g1 r := by
  cases r with
  | next ρ μ => exact fun g' σ' e m y v => h g' σ' e m (x.trans y) v
  | ret d μ => exact fun g' v e m y w => h g' v e m (x.trans y) w
  | brk ρ μ => exact fun g' σ' e m y v => h g' σ' e m (x.trans y) v
  | cont ρ μ => exact fun g' σ' e m y v => h g' σ' e m (x.trans y) v
  | exc e ρ μ => exact fun g' σ' C dd e' m y v w => h g' σ' C dd e' m (x.trans y) v w
  | bad => exact h
def tS (F : Fx) (W : WX) (f : SemS) : TS := fun D σ H => ∃ (g : G) (ρ : Env), g.fx = F ∧ g.H = H ∧ MemOk g ∧ EnvOk g ρ σ ∧ OutS D W g (f ρ g.μ)
def SS (X : Cx) (F : Fx) (W : WX) (st : Stmt) (f : SemS) : Prop := PS X st (tS F W f)
def SSs (X : Cx) (F : Fx) (W : WX) (st : List Stmt) (f : SemS) : Prop := PSs X st (tS F W f)
theorem PS.imp {X : Cx} {st : Stmt} {t t' : TS} (h : PS X st t) (k : ∀ D σ H, t' D σ H → t D σ H) : PS X st t' := ⟨fun pins s σ H D I w => h.run pins s σ H D I (k D σ H w)⟩
theorem PSs.imp {X : Cx} {st : List Stmt} {t t' : TS} (h : PSs X st t) (k : ∀ D σ H, t' D σ H → t D σ H) : PSs X st t' := ⟨fun pins s σ H D I w => h.run pins s σ H D I (k D σ H w)⟩
/-- an expression, then on -/
theorem OutS.ex {α β : Type} {RR : G → α → β → Prop} {D : Ends} {W : WX} {g : G} {ρ : Env} {σ : L2.St} {r : R α} {k : α → Mem → RS} {Q : β → Hp → Prop} (h : OutS D W g (r.s ρ k)) (v : EnvOk g ρ σ)
    (hk : ∀ (a : α) (g1 : G) (b : β), MemOk g1 → Ext g g1 → RR g1 a b → OutS D W g1 (k a g1.μ) → Q b g1.H) : Out RR (fun c d H' => W c d σ H') g r Q := by
  cases r with
  | ok a μ =>
    intro g1 b e m x rr
    subst e
    exact hk a g1 b m x rr (OutS.from (r := k a g1.μ) h x)
  | exc e μ => exact fun g' C dd e' m x w => h g' σ C dd e' m x (v.mono x) w
  | bad => exact h
theorem OutS.here {D : Ends} {W : WX} {g : G} {ρ : Env} {σ : L2.St} (h : OutS D W g (.next ρ g.μ)) (m : MemOk g) (v : EnvOk g ρ σ) : D.nx σ g.H := h g σ rfl m (Ext.refl g) v
def RS.then (r : RS) (k : SemS) : RS := match r with
  | .next ρ μ => k ρ μ
  | r => r
def sSeq (a b : SemS) : SemS := fun ρ μ => (a ρ μ).then b
def sNext : SemS := fun ρ μ => .next ρ μ
def sBrk : SemS := fun ρ μ => .brk ρ μ
def sCont : SemS := fun ρ μ => .cont ρ μ
def sSet (i : Nat) (f : Sem) : SemS := fun ρ μ => (f ρ μ).s ρ fun d μ => .next (ρ.set i (some d)) μ
def sDrop (f : Sem) : SemS := fun ρ μ => (f ρ μ).s ρ fun _ μ => .next ρ μ
def sRet (f : Sem) : SemS := fun ρ μ => (f ρ μ).s ρ fun d μ => .ret d μ
def sRetN : SemS := fun _ μ => .ret .non μ
def sIf (t : SemT) (a b : SemS) : SemS := fun ρ μ => (t ρ μ).s ρ fun k μ => if k = true then a ρ μ else b ρ μ
section
variable {X : Cx} {F : Fx} {W : WX} {st : Stmt} {sts a b : List Stmt} {fa fb : SemS} {f : Sem} {t : SemT} {e c : Expr} {pos : Pos}
theorem sss_nil : SSs X F W [] sNext := PSs.imp pss_nil fun D σ H ⟨g, ρ, e1, e2, m, v, o⟩ => by subst e2; exact o.here m v
theorem OutS.seq {D : Ends} {g : G} {r : RS} {k : SemS} (h : OutS D W g (r.then k)) (eF : g.fx = F) : OutS { D with nx := tS F W k D } W g r := by
  cases r with
  | next ρ μ =>
    intro g1 σ1 e m x v
    subst e
    exact ⟨g1, ρ, x.fx.trans eF, rfl, m, v, OutS.from (r := k ρ g1.μ) h x⟩
  | _ => exact h
theorem sss_cons (h1 : SS X F W st fa) (h2 : SSs X F W sts fb) : SSs X F W (st :: sts) (sSeq fa fb) :=
  PSs.imp (pss_cons h1 h2) fun D σ H ⟨g, ρ, e1, e2, m, v, o⟩ => ⟨g, ρ, e1, e2, m, v, o.seq e1⟩
theorem sss_one (h1 : SS X F W st fa) : SSs X F W [st] fa := pss_one h1
theorem ss_pass : SS X F W (.Pass pos) sNext := PS.imp ps_pass fun D σ H ⟨g, ρ, e1, e2, m, v, o⟩ => by subst e2; exact o.here m v
theorem ss_brk : SS X F W (.Break pos) sBrk := PS.imp ps_break fun D σ H ⟨g, ρ, e1, e2, m, v, o⟩ => by subst e2; exact o g σ rfl m (Ext.refl g) v
theorem ss_cont : SS X F W (.Continue pos) sCont := PS.imp ps_continue fun D σ H ⟨g, ρ, e1, e2, m, v, o⟩ => by subst e2; exact o g σ rfl m (Ext.refl g) v
theorem ss_drop (h : SE X F W e f) (hs : swapsWith e none pos.line X.env = pure false := by rfl) : SS X F W (.Expr e pos) (sDrop f) :=
  PS.imp (ps_expr h hs) fun D σ H ⟨g, ρ, e1, e2, m, v, o⟩ => ⟨g, ρ, e1, e2, m, v, o.ex v fun d g1 w m1 x1 r1 o1 => o1.here m1 (v.mono x1)⟩
theorem ss_ret (h : SE X F W e f) : SS X F W (.Return (some e) pos) (sRet f) :=
  PS.imp (ps_ret h) fun D σ H ⟨g, ρ, e1, e2, m, v, o⟩ => ⟨g, ρ, e1, e2, m, v, o.ex v fun d g1 w m1 x1 r1 o1 => o1 g1 w rfl m1 (Ext.refl g1) r1⟩
theorem ss_retN : SS X F W (.Return none pos) sRetN := PS.imp ps_retN fun D σ H ⟨g, ρ, e1, e2, m, v, o⟩ => by subst e2; exact o g .non rfl m (Ext.refl g) rfl
theorem ss_if (hc : ST X F W c t) (ha : SSs X F W a fa) (hb : SSs X F W b fb) : SS X F W (.If c a b pos) (sIf t fa fb) :=
  PS.imp (ps_if hc ha hb) fun D σ H ⟨g, ρ, e1, e2, m, v, o⟩ => ⟨g, ρ, e1, e2, m, v, o.ex v fun k g1 w m1 x1 r1 o1 => by
    cases r1
    cases k with
    | true => exact iteT ⟨g1, ρ, x1.fx.trans e1, rfl, m1, v.mono x1, o1⟩
    | false => exact iteF ⟨g1, ρ, x1.fx.trans e1, rfl, m1, v.mono x1, o1⟩⟩
theorem ss_set (i : Nat) {x : Str} {pos' : Pos} (hN : X.N.Nodup) (h : SE X F W e f) (hi : X.N[i]? = some x := by rfl) (hx : Loc X.env.scope x := by first | exact .inl rfl | exact .inr rfl) (hs : swapsWith e (some (.Name x pos')) pos.line X.env = pure false := by rfl)
    (hf : X.fn x = true ∨ X.env.scope.names.lookup x = some .local := by first | exact .inl rfl | exact .inr rfl | assumption) : SS X F W (.Assign [.Name x pos'] e pos) (sSet i f) :=
  PS.imp (ps_set hN hi hx h hs hf) fun D σ H ⟨g, ρ, e1, e2, m, v, o⟩ => ⟨g, ρ, e1, e2, m, v, o.ex v fun d g1 w m1 x1 r1 o1 => o1.here m1 ((v.mono x1).set i r1)⟩
end

/-! ### targets -/
abbrev Tgt := D → Env → Option Env
def gD (F : Fx) (a : Tgt) : TG := fun v σ H Q => ∃ (g : G) (ρ ρ' : Env) (d : D), g.fx = F ∧ g.H = H ∧ MemOk g ∧ EnvOk g ρ σ ∧ Rep g d v ∧ a d ρ = some ρ' ∧ ∀ σ', EnvOk g ρ' σ' → Q σ' H
def SG (X : Cx) (F : Fx) (tg : Expr) (a : Tgt) : Prop := PG X tg (gD F a)
theorem PG.imp {X : Cx} {tg : Expr} {t t' : TG} (h : PG X tg t) (k : ∀ v σ H Q, t' v σ H Q → t v σ H Q) : PG X tg t' := ⟨fun pins s σ H v u Q I r w => h.run pins s σ H v u Q I r (k v σ H Q w)⟩
def aNm (i : Nat) : Tgt := fun d ρ => some (ρ.set i (some d))
def setD : List Nat → List D → Env → Option Env
  | [], [], ρ => some ρ
  | i :: is, d :: ds, ρ => setD is ds (ρ.set i (some d))
  | _, _, _ => none
def aTup (is : List Nat) : Tgt := fun d ρ => match d with
  | .tup ds => setD is ds ρ
  | _ => none
def aLst (is : List Nat) : Tgt := fun d ρ => match d with
  | .lst ds => setD is ds ρ
  | _ => none
def gNs : List Nat → TGs
  | [] => gNil
  | i :: is => gCons (gName i) (gNs is)
theorem setD_len : ∀ {is : List Nat} {ds : List D} {ρ ρ' : Env}, setD is ds ρ = some ρ' → ds.length = is.length
  | [], [], _, _, _ => rfl
  | _ :: is, _ :: ds, _, _, h => by simp [setD_len (is := is) (ds := ds) h]
  | [], _ :: _, _, _, h => by simp [setD] at h
  | _ :: _, [], _, _, h => by simp [setD] at h
theorem gNs_ok {g : G} {Q : L2.St → Hp → Prop} {ρ' : Env} : ∀ {is : List Nat} {ds : List D} {xs : List V} {ρ : Env} {σ : L2.St}, RepL g ds xs → EnvOk g ρ σ → setD is ds ρ = some ρ' → (∀ σ', EnvOk g ρ' σ' → Q σ' g.H) → gNs is xs σ g.H Q
  | [], [], _, _, σ, r, v, h, q => by cases r; cases h; exact ⟨rfl, q σ v⟩
  | i :: is, d :: ds, _, ρ, σ, r, v, h, q => by
    obtain ⟨w, vs, rfl, r1, r2⟩ := r
    exact ⟨w, vs, rfl, gNs_ok r2 (v.set i r1) h q⟩
  | [], _ :: _, _, _, _, _, _, h, _ => by simp [setD] at h
  | _ :: _, [], _, _, _, _, _, h, _ => by simp [setD] at h
section
variable {X : Cx} {F : Fx} {W : WX} {e : Expr} {f : Sem} {pos : Pos} {es : List Expr}
theorem sg_nm (i : Nat) {x : Str} (hN : X.N.Nodup) (hi : X.N[i]? = some x := by rfl) (hx : Loc X.env.scope x := by first | exact .inl rfl | exact .inr rfl) (hf : X.fn x = true ∨ X.env.scope.names.lookup x = some .local := by first | exact .inl rfl | exact .inr rfl | assumption) : SG X F (.Name x pos) (aNm i) :=
  PG.imp (pg_name hN hi hx hf) fun v σ H Q ⟨g, ρ, ρ', d, e1, e2, m, w, r, ea, q⟩ => by cases ea; exact q _ (w.set i r)
def SGs (X : Cx) (es : List Expr) (is : List Nat) : Prop := PGs X es (gNs is)
theorem sgs_nil : SGs X [] [] := pgs_nil
theorem sgs_cons (i : Nat) {x : Str} {is : List Nat} (hN : X.N.Nodup) (r : SGs X es is) (hi : X.N[i]? = some x := by rfl) (hx : Loc X.env.scope x := by first | exact .inl rfl | exact .inr rfl) (hf : X.fn x = true ∨ X.env.scope.names.lookup x = some .local := by first | exact .inl rfl | exact .inr rfl | assumption)
    (hs : (assignEach (.Name x pos :: es) X.env).map (·.2) = assign (.Name x pos) X.env :: (assignEach es X.env).map (·.2) := by rfl) : SGs X (.Name x pos :: es) (i :: is) := pgs_cons (pg_name hN hi hx hf) r hs
theorem sg_tup {is : List Nat} {k : Nat} (hF : F.K = X.K) (hc : X.calm = true) (h : SGs X es is) (hn : (assignEach es X.env).length = is.length := by rfl) (hst : (assignEach es X.env).findIdx? (·.1) = none := by rfl) : SG X F (.Tuple es k pos) (aTup is) :=
  PG.imp (pg_tup hc h hn hst) fun v σ H Q ⟨g, ρ, ρ', d, e1, e2, m, w, r, ea, q⟩ => by
    subst e2
    cases d with
    | tup ds =>
      obtain ⟨a, xs, rfl, q1, t⟩ := r
      have eK : g.K = X.K := by rw [← hF, ← e1]; rfl
      exact ⟨a, xs, rfl, eK ▸ q1.sq, by rw [← t.length]; exact setD_len ea, gNs_ok t w ea q⟩
    | _ => cases ea
theorem sg_lst {is : List Nat} {k : Nat} (hF : F.K = X.K) (hc : X.calm = true) (h : SGs X es is) (hn : (assignEach es X.env).length = is.length := by rfl) (hst : (assignEach es X.env).findIdx? (·.1) = none := by rfl) : SG X F (.Tuple es k pos) (aLst is) :=
  PG.imp (pg_lst hc h hn hst) fun v σ H Q ⟨g, ρ, ρ', d, e1, e2, m, w, r, ea, q⟩ => by
    subst e2
    cases d with
    | lst ds =>
      obtain ⟨a, xs, rfl, q1, t⟩ := r
      have eK : g.K = X.K := by rw [← hF, ← e1]; rfl
      exact ⟨a, xs, rfl, eK ▸ q1.sq, by rw [← t.length]; exact setD_len ea, gNs_ok t w ea q⟩
    | _ => cases ea
def sAsg (a : Tgt) (f : Sem) : SemS := fun ρ μ => (f ρ μ).s ρ fun d μ => match a d ρ with
  | some ρ' => .next ρ' μ
  | none => .bad
/-- a, b = e -/
theorem ss_asg {a : Tgt} {tg : Expr} (h : SE X F W e f) (hg : SG X F tg a) (hs : swapsWithSole [tg] e pos.line X.env = pure false := by rfl) (hw : swappedStores [tg] e X.env = pure none := by rfl)
    (h1 : (assignEach [tg] X.env).map (·.2) = [assign tg X.env] := by rfl) : SS X F W (.Assign [tg] e pos) (sAsg a f) :=
  PS.imp (ps_asg h hg hs hw h1) fun D σ H ⟨g, ρ, e1, e2, m, v, o⟩ => ⟨g, ρ, e1, e2, m, v, o.ex v fun d g1 w m1 x1 r1 o1 => by
    cases ea : a d ρ with
    | none => simp only [ea] at o1; exact o1.elim
    | some ρ' =>
      simp only [ea] at o1
      exact ⟨g1, ρ, ρ', d, x1.fx.trans e1, rfl, m1, v.mono x1, r1, ea, fun σ' w' => o1.here m1 w'⟩⟩
/-- a, b = x, y with both sides written -/
def sPar (i j : Nat) (f : SemA) : SemS := fun ρ μ => (f ρ μ).s ρ fun ds μ => match ds with
  | [d, e] => .next ((ρ.set i (some d)).set j (some e)) μ
  | _ => .bad
theorem ss_par {fa : SemA} (i j : Nat) {x y : Str} {a b : Expr} {px py pt : Pos} {kt k2 : Nat} {pt2 : Pos} (hc : X.calm = true) (hN : X.N.Nodup) (ha : SA X F W [a, b] fa) (hi : X.N[i]? = some x := by rfl) (hj : X.N[j]? = some y := by rfl) (hij : i ≠ j := by decide)
    (hx : X.env.scope.names.lookup x = some .local := by rfl) (hy : X.env.scope.names.lookup y = some .local := by rfl) (hw : swappedStores [.Tuple [.Name x px, .Name y py] kt pt] (.Tuple [a, b] k2 pt2) X.env = pure (some [x, y]) := by rfl)
    (hs : swapsWithSole [.Tuple [.Name x px, .Name y py] kt pt] (.Tuple [a, b] k2 pt2) pos.line X.env = pure false := by rfl) : SS X F W (.Assign [.Tuple [.Name x px, .Name y py] kt pt] (.Tuple [a, b] k2 pt2) pos) (sPar i j fa) :=
  PS.imp (ps_par hc hN hi hj hij hx hy ha hw hs) fun D σ H ⟨g, ρ, e1, e2, m, v, o⟩ => ⟨g, ρ, e1, e2, m, v, o.ex v fun ds g1 vs m1 x1 r1 o1 => by
    match ds, r1, o1 with
    | [d, e], r1, o1 =>
      obtain ⟨v1, vs1, rfl, q1, v2, vs2, rfl, q2, r3⟩ := r1
      cases r3
      exact ⟨v1, v2, rfl, OutS.here o1 m1 (((v.mono x1).set i q1).set j q2)⟩
    | [], _, o1 => exact o1.elim
    | [_], _, o1 => exact o1.elim
    | _ :: _ :: _ :: _, _, o1 => exact o1.elim⟩
end

/-! ### what is walked -/
/-- what must stay as it is while a list in a cell is walked -/
abbrev Grd := Option (Nat × Cell)
def Grd.ok : Grd → Mem → Prop
  | none, _ => True
  | some (n, c), μ => μ[n]? = some c
structure Wk where
  ds : List D
  gd : Grd
abbrev SemI := Env → Mem → R Wk
def RepI (g : G) (w : Wk) (J : It) : Prop := ∀ g2 : G, Ext g g2 → MemOk g2 → w.gd.ok g2.μ → ∀ i : Nat,
  (∀ d, w.ds[i]? = some d → J.go i g2.H ∧ ∀ x H', J.yld i g2.H x H' → ∃ g3 : G, g3.H = H' ∧ g3.μ = g2.μ ∧ MemOk g3 ∧ Ext g2 g3 ∧ Rep g3 d x) ∧ (i = w.ds.length → J.stop i g2.H)
def tI (F : Fx) (W : WX) (f : SemI) : TI := fun σ H R =>
  ∃ (g : G) (ρ : Env), g.fx = F ∧ g.H = H ∧ MemOk g ∧ EnvOk g ρ σ ∧ w_gd f ρ g ∧ Out RepI (fun c d H' => W c d σ H') g (f ρ g.μ) R
where w_gd (f : SemI) (ρ : Env) (g : G) : Prop := ∀ w μ, f ρ g.μ = .ok w μ → w.gd.ok μ
def SI (X : Cx) (F : Fx) (W : WX) (tg e : Expr) (f : SemI) : Prop := ∀ (pins : List (Addr × Obj)) (s : Shared) (σ : L2.St) (H : Hp) (R : It → Hp → Prop), Inv X pins σ H s →
  (∃ (g : G) (ρ : Env), g.fx = F ∧ g.H = H ∧ MemOk g ∧ EnvOk g ρ σ ∧ Out (fun g w J => RepI g w J ∧ w.gd.ok g.μ) (fun c d H' => W c d σ H') g (f ρ g.μ) R) →
    wpAny (model X.prog X.w) X.A (eval e X.env) (fun v s1 => wpAny (model X.prog X.w) X.A (pyIter v) (PIE X pins σ tg R) X.xe s1) X.xe s
def tIt (F : Fx) (W : WX) (f : SemI) : TI := fun σ H R =>
  ∃ (g : G) (ρ : Env), g.fx = F ∧ g.H = H ∧ MemOk g ∧ EnvOk g ρ σ ∧ Out (fun g w J => RepI g w J ∧ w.gd.ok g.μ) (fun c d H' => W c d σ H') g (f ρ g.μ) R
theorem SI.pi {X : Cx} {F : Fx} {W : WX} {tg e : Expr} {f : SemI} (h : SI X F W tg e f) : PI X tg e (tIt F W f) := ⟨h⟩
/-- a list, a tuple, a text by its value -/
def wkD (d : D) (μ : Mem) : Option Wk := match d with
  | .lst ds => some ⟨ds, none⟩
  | .sq ds => some ⟨ds, none⟩
  | .tup ds => some ⟨ds, none⟩
  | .str x => some ⟨x.cps.toList.map fun c => .str ⟨#[c]⟩, none⟩
  | .obj n => match μ[n]? with
    | some (.lst ds) => some ⟨ds, some (n, .lst ds)⟩
    | some (.fz (.lst ds)) => some ⟨ds, some (n, .fz (.lst ds))⟩
    | _ => none
  | _ => none
def iVal (f : Sem) : SemI := fun ρ μ => (f ρ μ).bind fun d μ => R.ofP μ (wkD d μ)
theorem repI_list {g : G} {K : PySem.W.Frag} (eK : g.K = K) {a : Addr} {w : Wk} (h : ∀ g2 : G, Ext g g2 → MemOk g2 → w.gd.ok g2.μ → ∃ xs, SqL K g2.H a xs ∧ RepL g2 w.ds xs) : RepI g w (Itl K a) := fun g2 x m ok i => by
  obtain ⟨xs, q, r⟩ := h g2 x m ok
  refine ⟨fun d hd => ?_, fun e => ⟨xs, q, by rw [e, r.length]; exact Nat.le_refl _⟩⟩
  obtain ⟨v, hv, rv⟩ := r.get' hd
  refine ⟨⟨xs, v, q, hv⟩, fun y H' ⟨e1, f⟩ => ⟨g2, e1.symm, rfl, m, Ext.refl g2, ?_⟩⟩
  have := f xs q
  rw [hv] at this
  cases this
  exact rv
theorem repI_tup {g : G} {K : PySem.W.Frag} (eK : g.K = K) {a : Addr} {w : Wk} (h : ∀ g2 : G, Ext g g2 → MemOk g2 → w.gd.ok g2.μ → ∃ xs, SqT K g2.H a xs ∧ RepL g2 w.ds xs) : RepI g w (Itt K a) := fun g2 x m ok i => by
  obtain ⟨xs, q, r⟩ := h g2 x m ok
  refine ⟨fun d hd => ?_, fun e => ⟨xs, q, by rw [e, r.length]; exact Nat.le_refl _⟩⟩
  obtain ⟨v, hv, rv⟩ := r.get' hd
  refine ⟨⟨xs, v, q, hv⟩, fun y H' ⟨e1, f⟩ => ⟨g2, e1.symm, rfl, m, Ext.refl g2, ?_⟩⟩
  have := f xs q
  rw [hv] at this
  cases this
  exact rv
theorem repI_str {g : G} {x : Str} : RepI g ⟨x.cps.toList.map fun c => .str ⟨#[c]⟩, none⟩ (Its x) := fun g2 y m ok i => by
  refine ⟨fun d hd => ?_, fun e => ?_⟩
  · have hd' : (x.cps.toList.map fun c => D.str ⟨#[c]⟩)[i]? = some d := hd
    rw [List.getElem?_map] at hd'
    cases q : x.cps.toList[i]? with
    | none => rw [q] at hd'; cases hd'
    | some c =>
      rw [q] at hd'
      have ed : d = D.str ⟨#[c]⟩ := (Option.some.inj hd').symm
      subst ed
      have hi : i < x.cps.size := by
        have := (List.getElem?_eq_some_iff.mp q).1
        rwa [Array.length_toList] at this
      refine ⟨hi, fun v H' ⟨e1, c2, h1, h2⟩ => ⟨g2, e1.symm, rfl, m, Ext.refl g2, ?_⟩⟩
      have : x.cps[i]? = some c := by rw [← Array.getElem?_toList]; exact q
      rw [this] at h1
      cases h1
      exact h2
  · show x.cps.size ≤ i
    have : i = (x.cps.toList.map fun c => D.str ⟨#[c]⟩).length := e
    rw [List.length_map, Array.length_toList] at this
    omega
theorem si_val {X : Cx} {F : Fx} {W : WX} {tg e : Expr} {f : Sem} (hF : F.K = X.K) (h : SE X F W e f) : SI X F W tg e (iVal f) := by
  intro pins s σ H RR I hh
  obtain ⟨g, ρ, e1, rfl, m, v, o⟩ := hh
  have o : Out (fun g w J => RepI g w J ∧ w.gd.ok g.μ) (fun c d H' => W c d σ H') g ((f ρ g.μ).bind fun d μ => R.ofP μ (wkD d μ)) RR := o
  cases hf : f ρ g.μ with
  | bad => rw [hf] at o; exact o.elim
  | exc ex μ =>
    rw [hf] at o
    refine (pi_list h).run pins s σ g.H RR I ⟨g, ρ, e1, rfl, m, v, ?_⟩
    rw [hf]; exact o
  | ok d μ =>
    rw [hf] at o
    have o : Out (fun g w J => RepI g w J ∧ w.gd.ok g.μ) (fun c d H' => W c d σ H') g (R.ofP μ (wkD d μ)) RR := o
    cases d with
    | lst ds =>
      refine (pi_list h).run pins s σ g.H RR I ⟨g, ρ, e1, rfl, m, v, ?_⟩
      rw [hf]
      intro g1 b em m1 x1 r1
      have r1' := r1
      obtain ⟨a, xs, rfl, q, t⟩ := r1
      have eK : g1.K = X.K := fxK (x1.fx.trans e1) hF
      refine ⟨a, rfl, ⟨xs, eK ▸ q.sq⟩, o g1 _ em m1 x1 ⟨repI_list eK fun g2 x2 m2 _ => ?_, trivial⟩⟩
      obtain ⟨a2, ys, e2, q2, t2⟩ := r1'.mono x2
      cases e2
      exact ⟨ys, (x2.k.trans eK) ▸ q2.sq, t2⟩
    | sq ds =>
      refine (pi_list h).run pins s σ g.H RR I ⟨g, ρ, e1, rfl, m, v, ?_⟩
      rw [hf]
      intro g1 b em m1 x1 r1
      have r1' := r1
      obtain ⟨a, xs, rfl, q, t⟩ := r1
      have eK : g1.K = X.K := fxK (x1.fx.trans e1) hF
      refine ⟨a, rfl, ⟨xs, eK ▸ q.sq⟩, o g1 _ em m1 x1 ⟨repI_list eK fun g2 x2 m2 _ => ?_, trivial⟩⟩
      obtain ⟨a2, ys, e2, q2, t2⟩ := r1'.mono x2
      cases e2
      exact ⟨ys, (x2.k.trans eK) ▸ q2.sq, t2⟩
    | tup ds =>
      refine (pi_tup h).run pins s σ g.H RR I ⟨g, ρ, e1, rfl, m, v, ?_⟩
      rw [hf]
      intro g1 b em m1 x1 r1
      have r1' := r1
      obtain ⟨a, xs, rfl, q, t⟩ := r1
      have eK : g1.K = X.K := fxK (x1.fx.trans e1) hF
      refine ⟨a, rfl, ⟨xs, eK ▸ q.sq⟩, o g1 _ em m1 x1 ⟨repI_tup eK fun g2 x2 m2 _ => ?_, trivial⟩⟩
      obtain ⟨a2, ys, e2, q2, t2⟩ := r1'.mono x2
      cases e2
      exact ⟨ys, (x2.k.trans eK) ▸ q2.sq, t2⟩
    | str x =>
      refine (pi_str h).run pins s σ g.H RR I ⟨g, ρ, e1, rfl, m, v, ?_⟩
      rw [hf]
      intro g1 b em m1 x1 r1
      have r1' : b = .str x := r1
      subst r1'
      exact ⟨x, rfl, o g1 _ em m1 x1 ⟨repI_str, trivial⟩⟩
    | obj n =>
      refine (pi_list h).run pins s σ g.H RR I ⟨g, ρ, e1, rfl, m, v, ?_⟩
      rw [hf]
      intro g1 b em m1 x1 r1
      have r1' : Rep g1 (.obj n) b := r1
      obtain ⟨a, q, rfl⟩ := r1
      subst em
      have eK : g1.K = X.K := fxK (x1.fx.trans e1) hF
      cases hc : g1.μ[n]? with
      | none => simp only [wkD, hc] at o; exact o.elim
      | some c =>
        have cr := m1.cells n a c q hc
        have key : ∀ (ds : List D), c = .lst ds ∨ c = .fz (.lst ds) → Out (fun g w J => RepI g w J ∧ w.gd.ok g.μ) (fun c d H' => W c d σ H') g (R.ok ⟨ds, some (n, c)⟩ g1.μ) RR → ∃ a', V.ref a = V.ref a' ∧ (∃ xs, SqL X.K g1.H a' xs) ∧ RR (Itl X.K a') g1.H := by
          intro ds hcd o2
          have rd : ∀ g2 : G, Ext g1 g2 → MemOk g2 → g2.μ[n]? = some c → ∃ xs, SqL X.K g2.H a xs ∧ RepL g2 ds xs := by
            intro g2 x2 m2 hc2
            obtain ⟨a2, xs, e2, q2, t2⟩ := lstD_rep (g := g2) (ds := ds) m2 (d := .obj n) (v := .ref a) ⟨a, x2.get q, rfl⟩ (by
              rcases hcd with rfl | rfl <;> simp [lstD, hc2])
            cases e2
            exact ⟨xs, (x2.k.trans eK) ▸ q2, t2⟩
          obtain ⟨xs, q2, _⟩ := rd g1 (Ext.refl g1) m1 hc
          exact ⟨a, rfl, ⟨xs, q2⟩, o2 g1 _ rfl m1 x1 ⟨repI_list eK fun g2 x2 m2 ok => rd g2 x2 m2 ok, hc⟩⟩
        cases c with
        | lst ds => simp only [wkD, hc] at o; exact key ds (.inl rfl) o
        | fz d =>
          cases d with
          | lst ds => simp only [wkD, hc] at o; exact key ds (.inr rfl) o
          | _ => simp only [wkD, hc] at o; exact o.elim
        | _ => simp only [wkD, hc] at o; exact o.elim
    | _ => exact o.elim
end Z

namespace Z
open PySem PySem.Spec PyProof.Rows L2
open Classical in
/-- what stands behind a turn of a loop -/
noncomputable def forG (gd : Grd) (μ : Mem) (r : RS) : RS := if gd.ok μ then r else .bad
noncomputable def forL (gd : Grd) (a : Tgt) (b : SemS) : List D → SemS
  | [], ρ, μ => .next ρ μ
  | d :: ds, ρ, μ => match a d ρ with
    | none => .bad
    | some ρ1 => match b ρ1 μ with
      | .next ρ2 μ2 => forG gd μ2 (forL gd a b ds ρ2 μ2)
      | .cont ρ2 μ2 => forG gd μ2 (forL gd a b ds ρ2 μ2)
      | .brk ρ2 μ2 => .next ρ2 μ2
      | r => r
noncomputable def sFor (i : SemI) (a : Tgt) (b : SemS) : SemS := fun ρ μ => (i ρ μ).s ρ fun w μ => forL w.gd a b w.ds ρ μ
theorem forG_next {gd : Grd} {μ : Mem} {r : RS} {D : Ends} {W : WX} {g : G} (h : OutS D W g (forG gd μ r)) : gd.ok μ ∧ OutS D W g r := by
  unfold forG at h
  by_cases c : gd.ok μ
  · rw [if_pos c] at h; exact ⟨c, h⟩
  · rw [if_neg c] at h; exact h.elim
section
variable {X : Cx} {F : Fx} {W : WX} {tg iter c : Expr} {body : List Stmt} {fi : SemI} {a : Tgt} {fb : SemS} {t : SemT} {pos : Pos}
theorem ss_for (hp : PassesOwn (model X.prog X.w) X.A X.env X.xe) (hc : X.calm = true) (hi : SI X F W tg iter fi) (hg : SG X F tg a) (hb : SSs X F W body fb) (hs : ∀ x, foldedSetIterable iter X.env x = pure x := by intro _; rfl) : SS X F W (.For tg iter body [] pos) (sFor fi a fb) :=
  PS.imp (ps_for hp hc hi.pi hg hb hs) fun D σ H ⟨g, ρ, e1, e2, m, v, o⟩ => by
    refine ⟨g, ρ, e1, e2, m, v, o.ex v fun w g1 J m1 x1 ⟨rw1, gd1⟩ o1 => ?_⟩
    refine ⟨fun i n σ2 H2 => ∃ (g2 : G) (ρ2 : Env), g2.H = H2 ∧ Ext g1 g2 ∧ MemOk g2 ∧ EnvOk g2 ρ2 σ2 ∧ w.gd.ok g2.μ ∧ i + n = w.ds.length ∧ OutS D W g2 (forL w.gd a fb (w.ds.drop i) ρ2 g2.μ),
      ⟨w.ds.length, g1, ρ, rfl, Ext.refl g1, m1, v.mono x1, gd1, by omega, o1⟩, fun i n σ2 H2 hW => ?_⟩
    obtain ⟨g2, ρ2, rfl, x2, m2, v2, gd2, en, o2⟩ := hW
    cases hd : w.ds[i]? with
    | none =>
      have hl : w.ds.length ≤ i := List.getElem?_eq_none_iff.mp hd
      have hi2 : i = w.ds.length := by omega
      refine .inl ⟨(rw1 g2 x2 m2 gd2 i).2 hi2, ?_⟩
      rw [List.drop_of_length_le hl] at o2
      exact OutS.here o2 m2 v2
    | some d =>
      obtain ⟨go, yl⟩ := (rw1 g2 x2 m2 gd2 i).1 d hd
      have hl : i < w.ds.length := (List.getElem?_eq_some_iff.mp hd).1
      have ed : w.ds.drop i = d :: w.ds.drop (i + 1) := by
        rw [List.drop_eq_getElem_cons hl]
        rw [List.getElem?_eq_getElem hl] at hd
        rw [Option.some.inj hd]
      rw [ed] at o2
      refine .inr ⟨go, fun σ3 H3 => ∃ (g3 : G) (ρ3 : Env), g3.H = H3 ∧ Ext g1 g3 ∧ MemOk g3 ∧ EnvOk g3 ρ3 σ3 ∧ w.gd.ok g3.μ ∧ OutS D W g3 (forL w.gd a fb (w.ds.drop (i + 1)) ρ3 g3.μ), fun σ3 H3 ⟨g3, ρ3, h3, x3, m3, v3, gd3, o3⟩ => ⟨n - 1, by omega, g3, ρ3, h3, x3, m3, v3, gd3, by omega, o3⟩, fun x H' hy => ?_⟩
      obtain ⟨g3, rfl, em, m3, x3, r3⟩ := yl x H' hy
      have o3 := o2
      unfold forL at o3
      cases ea : a d ρ2 with
      | none => simp only [ea] at o3; exact o3.elim
      | some ρ3 =>
        simp only [ea] at o3
        refine ⟨g3, ρ2, ρ3, d, (x3.fx.trans (x2.fx.trans (x1.fx.trans e1))), rfl, m3, v2.mono x3, r3, ea, fun σ3 v3 => ?_⟩
        refine ⟨g3, ρ3, (x3.fx.trans (x2.fx.trans (x1.fx.trans e1))), rfl, m3, v3, ?_⟩
        rw [← em] at o3
        have x13 : Ext g1 g3 := x2.trans x3
        cases eb : fb ρ3 g3.μ with
        | next ρ4 μ4 =>
          rw [eb] at o3
          obtain ⟨gd4, o4⟩ := forG_next (g := g2) o3
          intro g4 σ4 e4 m4 x4 v4
          subst e4
          exact ⟨g4, ρ4, rfl, x13.trans x4, m4, v4, gd4, o4.from (x3.trans x4)⟩
        | cont ρ4 μ4 =>
          rw [eb] at o3
          obtain ⟨gd4, o4⟩ := forG_next (g := g2) o3
          intro g4 σ4 e4 m4 x4 v4
          subst e4
          exact ⟨g4, ρ4, rfl, x13.trans x4, m4, v4, gd4, o4.from (x3.trans x4)⟩
        | brk ρ4 μ4 =>
          rw [eb] at o3
          intro g4 σ4 e4 m4 x4 v4
          exact o3 g4 σ4 e4 m4 (x3.trans x4) v4
        | ret d μ4 => rw [eb] at o3; exact OutS.from (D := D) (r := .ret d μ4) o3 x3
        | exc e ρ4 μ4 => rw [eb] at o3; exact OutS.from (D := D) (r := .exc e ρ4 μ4) o3 x3
        | bad => rw [eb] at o3; exact o3.elim

/-! ### while -/
def whileN (c : SemT) (b : SemS) : Nat → SemS
  | 0, _, _ => .bad
  | n + 1, ρ, μ => (c ρ μ).s ρ fun k μ1 => if k = true then (match b ρ μ1 with
      | .next ρ2 μ2 => whileN c b n ρ2 μ2
      | .cont ρ2 μ2 => whileN c b n ρ2 μ2
      | .brk ρ2 μ2 => .next ρ2 μ2
      | r => r) else .next ρ μ1
theorem whileN_succ (c : SemT) (b : SemS) (n : Nat) (ρ : Env) (μ : Mem) : whileN c b (n + 1) ρ μ = (c ρ μ).s ρ fun k μ1 => if k = true then (match b ρ μ1 with
      | .next ρ2 μ2 => whileN c b n ρ2 μ2
      | .cont ρ2 μ2 => whileN c b n ρ2 μ2
      | .brk ρ2 μ2 => .next ρ2 μ2
      | r => r) else .next ρ μ1 := rfl
theorem whileN_mono {c : SemT} {b : SemS} : ∀ {n : Nat} {ρ : Env} {μ : Mem}, whileN c b n ρ μ ≠ .bad → whileN c b (n + 1) ρ μ = whileN c b n ρ μ
  | 0, _, _, h => (h rfl).elim
  | n + 1, ρ, μ, h => by
    unfold whileN at h
    rw [whileN_succ c b (n + 1), whileN_succ c b n]
    cases hc : c ρ μ with
    | bad => rfl
    | exc e μ1 => rfl
    | ok k μ1 =>
      rw [hc] at h
      cases k with
      | false => rfl
      | true =>
        show (match b ρ μ1 with | .next ρ2 μ2 => whileN c b (n + 1) ρ2 μ2 | .cont ρ2 μ2 => whileN c b (n + 1) ρ2 μ2 | .brk ρ2 μ2 => .next ρ2 μ2 | r => r) = (match b ρ μ1 with | .next ρ2 μ2 => whileN c b n ρ2 μ2 | .cont ρ2 μ2 => whileN c b n ρ2 μ2 | .brk ρ2 μ2 => .next ρ2 μ2 | r => r)
        have h' : (match b ρ μ1 with | .next ρ2 μ2 => whileN c b n ρ2 μ2 | .cont ρ2 μ2 => whileN c b n ρ2 μ2 | .brk ρ2 μ2 => .next ρ2 μ2 | r => r) ≠ RS.bad := h
        cases hb : b ρ μ1 with
        | next ρ2 μ2 => rw [hb] at h'; exact whileN_mono h'
        | cont ρ2 μ2 => rw [hb] at h'; exact whileN_mono h'
        | brk _ _ => rfl
        | ret _ _ => rfl
        | exc _ _ _ => rfl
        | bad => rfl
theorem whileN_le {c : SemT} {b : SemS} {n m : Nat} {ρ : Env} {μ : Mem} (hn : whileN c b n ρ μ ≠ .bad) (h : n ≤ m) : whileN c b m ρ μ = whileN c b n ρ μ := by
  induction h with
  | refl => rfl
  | step h ih => rw [whileN_mono (by rw [ih]; exact hn), ih]
open Classical in
noncomputable def sWhile (c : SemT) (b : SemS) : SemS := fun ρ μ => if h : ∃ n, whileN c b n ρ μ ≠ .bad then whileN c b (Classical.choose h) ρ μ else .bad
theorem sWhile_of {c : SemT} {b : SemS} {n : Nat} {ρ : Env} {μ : Mem} {r : RS} (h : whileN c b n ρ μ = r) (hr : r ≠ .bad) : sWhile c b ρ μ = r := by
  have hx : ∃ n, whileN c b n ρ μ ≠ .bad := ⟨n, by rw [h]; exact hr⟩
  unfold sWhile
  rw [dif_pos hx]
  have h1 := Classical.choose_spec hx
  have h2 : whileN c b n ρ μ ≠ .bad := by rw [h]; exact hr
  rcases Nat.le_total (Classical.choose hx) n with l | l
  · rw [← whileN_le h1 l, h]
  · rw [whileN_le h2 l, h]
theorem sWhile_ex {c : SemT} {b : SemS} {ρ : Env} {μ : Mem} (h : sWhile c b ρ μ ≠ .bad) : ∃ n, whileN c b n ρ μ = sWhile c b ρ μ := by
  by_cases hx : ∃ n, whileN c b n ρ μ ≠ .bad
  · refine ⟨Classical.choose hx, ?_⟩
    unfold sWhile
    rw [dif_pos hx]
  · exact absurd (by unfold sWhile; rw [dif_neg hx]) h
/-- one turn -/
noncomputable def whileStep (c : SemT) (b : SemS) (k : SemS) : SemS := fun ρ μ => (c ρ μ).s ρ fun q μ1 => if q = true then (match b ρ μ1 with
      | .next ρ2 μ2 => k ρ2 μ2
      | .cont ρ2 μ2 => k ρ2 μ2
      | .brk ρ2 μ2 => .next ρ2 μ2
      | r => r) else .next ρ μ1
theorem whileN_of_step {c : SemT} {b : SemS} {ρ : Env} {μ : Mem} {r : RS} (h : whileStep c b (sWhile c b) ρ μ = r) (hr : r ≠ .bad) : ∃ n, whileN c b n ρ μ = r := by
  unfold whileStep at h
  cases hc : c ρ μ with
  | bad => rw [hc] at h; exact absurd h.symm hr
  | exc e μ1 => rw [hc] at h; exact ⟨1, by rw [whileN_succ, hc]; exact h⟩
  | ok k μ1 =>
    rw [hc] at h
    cases k with
    | false => exact ⟨1, by rw [whileN_succ, hc]; exact h⟩
    | true =>
      have h' : (match b ρ μ1 with | .next ρ2 μ2 => sWhile c b ρ2 μ2 | .cont ρ2 μ2 => sWhile c b ρ2 μ2 | .brk ρ2 μ2 => .next ρ2 μ2 | r => r) = r := h
      have key : ∀ ρ2 μ2, sWhile c b ρ2 μ2 = r → (b ρ μ1 = .next ρ2 μ2 ∨ b ρ μ1 = .cont ρ2 μ2) → ∃ n, whileN c b n ρ μ = r := by
        intro ρ2 μ2 hs hb
        obtain ⟨n, hn⟩ := sWhile_ex (c := c) (b := b) (ρ := ρ2) (μ := μ2) (by rw [hs]; exact hr)
        refine ⟨n + 1, ?_⟩
        rw [whileN_succ, hc]
        show (match b ρ μ1 with | .next ρ2 μ2 => whileN c b n ρ2 μ2 | .cont ρ2 μ2 => whileN c b n ρ2 μ2 | .brk ρ2 μ2 => .next ρ2 μ2 | r => r) = r
        rcases hb with hb | hb <;> rw [hb] <;> exact hn.trans hs
      cases hb : b ρ μ1 with
      | next ρ2 μ2 => rw [hb] at h'; exact key ρ2 μ2 h' (.inl hb)
      | cont ρ2 μ2 => rw [hb] at h'; exact key ρ2 μ2 h' (.inr hb)
      | brk ρ2 μ2 => rw [hb] at h'; exact ⟨1, by rw [whileN_succ, hc]; show (match b ρ μ1 with | .next ρ2 μ2 => whileN c b 0 ρ2 μ2 | .cont ρ2 μ2 => whileN c b 0 ρ2 μ2 | .brk ρ2 μ2 => .next ρ2 μ2 | r => r) = r; rw [hb]; exact h'⟩
      | ret d μ2 => rw [hb] at h'; exact ⟨1, by rw [whileN_succ, hc]; show (match b ρ μ1 with | .next ρ2 μ2 => whileN c b 0 ρ2 μ2 | .cont ρ2 μ2 => whileN c b 0 ρ2 μ2 | .brk ρ2 μ2 => .next ρ2 μ2 | r => r) = r; rw [hb]; exact h'⟩
      | exc e ρ2 μ2 => rw [hb] at h'; exact ⟨1, by rw [whileN_succ, hc]; show (match b ρ μ1 with | .next ρ2 μ2 => whileN c b 0 ρ2 μ2 | .cont ρ2 μ2 => whileN c b 0 ρ2 μ2 | .brk ρ2 μ2 => .next ρ2 μ2 | r => r) = r; rw [hb]; exact h'⟩
      | bad => rw [hb] at h'; exact absurd h'.symm hr
theorem sWhile_step {c : SemT} {b : SemS} {ρ : Env} {μ : Mem} {r : RS} (h : whileStep c b (sWhile c b) ρ μ = r) (hr : r ≠ .bad) : sWhile c b ρ μ = r := by
  obtain ⟨n, hn⟩ := whileN_of_step h hr
  exact sWhile_of hn hr
theorem ss_while (hp : PassesOwn (model X.prog X.w) X.A X.env X.xe) (hc : ST X F W c t) (hb : SSs X F W body fb) : SS X F W (.While c body [] pos) (sWhile t fb) :=
  PS.imp (ps_while hp hc hb) fun D σ H ⟨g, ρ, e1, e2, m, v, o⟩ => by
    have hne : sWhile t fb ρ g.μ ≠ .bad := fun z => by rw [z] at o; exact o
    obtain ⟨n0, hn0⟩ := sWhile_ex hne
    rw [← hn0] at o
    refine ⟨fun n σ2 H2 => ∃ (g2 : G) (ρ2 : Env), g2.fx = F ∧ g2.H = H2 ∧ MemOk g2 ∧ EnvOk g2 ρ2 σ2 ∧ OutS D W g2 (whileN t fb n ρ2 g2.μ), ⟨n0, g, ρ, e1, e2, m, v, o⟩, fun n σ2 H2 hW => ?_⟩
    obtain ⟨g2, ρ2, f2, rfl, m2, v2, o2⟩ := hW
    cases n with
    | zero => exact o2.elim
    | succ n =>
      rw [whileN_succ] at o2
      refine ⟨g2, ρ2, f2, rfl, m2, v2, o2.ex v2 fun k g3 b m3 x3 r3 o3 => ?_⟩
      cases r3
      cases k with
      | false => exact iteF (OutS.here o3 m3 (v2.mono x3))
      | true =>
        refine iteT ⟨fun σ4 H4 => ∃ (g4 : G) (ρ4 : Env), g4.fx = F ∧ g4.H = H4 ∧ MemOk g4 ∧ EnvOk g4 ρ4 σ4 ∧ OutS D W g4 (whileN t fb n ρ4 g4.μ), fun σ4 H4 h4 => ⟨n, Nat.lt_succ_self n, h4⟩, ?_⟩
        refine ⟨g3, ρ2, x3.fx.trans f2, rfl, m3, v2.mono x3, ?_⟩
        have o3 : OutS D W g3 (match fb ρ2 g3.μ with | .next ρ2 μ2 => whileN t fb n ρ2 μ2 | .cont ρ2 μ2 => whileN t fb n ρ2 μ2 | .brk ρ2 μ2 => .next ρ2 μ2 | r => r) := o3
        cases eb : fb ρ2 g3.μ with
        | next ρ4 μ4 =>
          rw [eb] at o3
          intro g4 σ4 e4 m4 x4 v4
          subst e4
          exact ⟨g4, ρ4, x4.fx.trans (x3.fx.trans f2), rfl, m4, v4, OutS.from (r := whileN t fb n ρ4 g4.μ) o3 x4⟩
        | cont ρ4 μ4 =>
          rw [eb] at o3
          intro g4 σ4 e4 m4 x4 v4
          subst e4
          exact ⟨g4, ρ4, x4.fx.trans (x3.fx.trans f2), rfl, m4, v4, OutS.from (r := whileN t fb n ρ4 g4.μ) o3 x4⟩
        | brk ρ4 μ4 => rw [eb] at o3; exact o3
        | ret d μ4 => rw [eb] at o3; exact o3
        | exc e ρ4 μ4 => rw [eb] at o3; exact o3
        | bad => rw [eb] at o3; exact o3.elim
end
end Z

namespace Z
open PySem PySem.Spec PyProof.Rows L2

/-! ### comprehensions -/
/-- nothing is raised within -/
def R.bindB {α β : Type} : R α → (α → Mem → R β) → R β
  | .ok a μ, k => k a μ
  | _, _ => .bad
open Classical in
noncomputable def lcG {β : Type} (gd : Grd) (μ : Mem) (r : R β) : R β := if gd.ok μ then r else .bad
noncomputable def lcL (gd : Grd) (a : Tgt) (t : SemT) (e : Sem) (ρ : Env) : List D → Mem → R (List D)
  | [], μ => .ok [] μ
  | d :: ds, μ => match a d ρ with
    | none => .bad
    | some ρ1 => (t ρ1 μ).bindB fun k μ1 => if k = true
        then (e ρ1 μ1).bindB fun y μ2 => lcG gd μ2 ((lcL gd a t e ρ ds μ2).bindB fun ys μ3 => .ok (y :: ys) μ3)
        else lcG gd μ1 (lcL gd a t e ρ ds μ1)
def tYes : SemT := fun _ μ => .ok true μ
noncomputable def fLc (i : SemI) (a : Tgt) (t : SemT) (e : Sem) (own : List Nat) : SemA := fun ρ μ => (i ρ μ).bind fun w μ => if w.ds.length ≤ sizeLine then lcL w.gd a t e (wipeD ρ own) w.ds μ else .bad
theorem bindB_ok {α β : Type} {r : R α} {k : α → Mem → R β} {b : β} {μ : Mem} (h : r.bindB k = .ok b μ) : ∃ a μ1, r = .ok a μ1 ∧ k a μ1 = .ok b μ := by
  cases r with
  | ok a μ1 => exact ⟨a, μ1, rfl, h⟩
  | exc _ _ => cases h
  | bad => cases h
theorem lcG_ok {β : Type} {gd : Grd} {μ μ' : Mem} {r : R β} {b : β} (h : lcG gd μ r = .ok b μ') : gd.ok μ ∧ r = .ok b μ' := by
  unfold lcG at h
  by_cases c : gd.ok μ
  · rw [if_pos c] at h; exact ⟨c, h⟩
  · rw [if_neg c] at h; cases h
theorem bindB_cases {α β : Type} (r : R α) (k : α → Mem → R β) (hk : ∀ a μ, k a μ = .bad ∨ ∃ b μ', k a μ = .ok b μ') : r.bindB k = .bad ∨ ∃ b μ', r.bindB k = .ok b μ' := by
  cases r with
  | ok a μ => exact hk a μ
  | exc _ _ => exact .inl rfl
  | bad => exact .inl rfl
theorem lcG_cases {β : Type} {gd : Grd} {μ : Mem} {r : R β} (h : r = .bad ∨ ∃ b μ', r = .ok b μ') : lcG gd μ r = .bad ∨ ∃ b μ', lcG gd μ r = .ok b μ' := by
  unfold lcG
  by_cases c : gd.ok μ
  · rw [if_pos c]; exact h
  · rw [if_neg c]; exact .inl rfl
theorem lcL_cases {gd : Grd} {a : Tgt} {t : SemT} {e : Sem} {ρ : Env} : ∀ (ds : List D) (μ : Mem), lcL gd a t e ρ ds μ = .bad ∨ ∃ ys μ', lcL gd a t e ρ ds μ = .ok ys μ'
  | [], μ => .inr ⟨[], μ, rfl⟩
  | d :: ds, μ => by
    rw [lcL]
    cases a d ρ with
    | none => exact .inl rfl
    | some ρ1 =>
      refine bindB_cases _ _ fun k μ1 => ?_
      cases k with
      | true =>
        rw [if_pos rfl]
        refine bindB_cases _ _ fun y μ2 => lcG_cases (bindB_cases _ _ fun ys μ3 => .inr ⟨_, _, rfl⟩)
      | false =>
        rw [if_neg Bool.false_ne_true]
        exact lcG_cases (lcL_cases ds μ1)
theorem lcL_len {gd : Grd} {a : Tgt} {t : SemT} {e : Sem} {ρ : Env} : ∀ (ds : List D) (μ : Mem) (ys : List D) (μ' : Mem), lcL gd a t e ρ ds μ = .ok ys μ' → ys.length ≤ ds.length
  | [], μ, ys, μ', h => by rw [lcL] at h; cases h; exact Nat.le_refl _
  | d :: ds, μ, ys, μ', h => by
    rw [lcL] at h
    cases ea : a d ρ with
    | none => rw [ea] at h; cases h
    | some ρ1 =>
      rw [ea] at h
      obtain ⟨k, μ1, _, h⟩ := bindB_ok h
      cases k with
      | true =>
        rw [if_pos rfl] at h
        obtain ⟨y, μ2, _, h⟩ := bindB_ok h
        obtain ⟨zs, μ3, h1, h⟩ := bindB_ok (lcG_ok h).2
        cases h
        have := lcL_len ds μ2 zs _ h1
        simp only [List.length_cons]; omega
      | false =>
        rw [if_neg Bool.false_ne_true] at h
        have := lcL_len ds μ1 ys μ' (lcG_ok h).2
        simp only [List.length_cons]; omega
/-- a target within a block: the slots that it does not own stay -/
def gW (F : Fx) (a : Tgt) (vs : List Nat) : TG := fun v σ H Q => ∃ (g : G) (ρ ρ' : Env) (d : D), g.fx = F ∧ g.H = H ∧ MemOk g ∧ EnvOk g ρ σ ∧ Rep g d v ∧ a d ρ = some ρ' ∧ ∀ σ', EnvOk g ρ' σ' → L2.wipe σ' vs = L2.wipe σ vs → Q σ' H
def SGw (X : Cx) (F : Fx) (tg : Expr) (a : Tgt) (vs : List Nat) : Prop := PG X tg (gW F a vs)
theorem wipe_get (σ : L2.St) : ∀ (vs : List Nat) (j : Nat), (L2.wipe σ vs)[j]? = if j ∈ vs ∧ j < σ.length then some none else σ[j]?
  | [], j => by simp [L2.wipe]
  | v :: vs, j => by
    show ((L2.wipe σ vs).set v none)[j]? = _
    rw [List.getElem?_set, wipe_get σ vs j, L2.wipe_length]
    by_cases e : v = j
    · subst e
      by_cases hl : v < σ.length
      · simp [hl]
      · simp [hl]
    · have e' : ¬ j = v := fun z => e z.symm
      simp [e, e']
theorem wipe_set {σ : L2.St} {vs : List Nat} {i : Nat} {x : Option V} (h : i ∈ vs) : L2.wipe (σ.set i x) vs = L2.wipe σ vs := by
  apply List.ext_getElem?
  intro j
  rw [wipe_get, wipe_get, List.length_set]
  by_cases hj : j ∈ vs ∧ j < σ.length
  · rw [if_pos hj, if_pos hj]
  · rw [if_neg hj, if_neg hj, List.getElem?_set]
    by_cases e : i = j
    · subst e
      have hl : ¬ i < σ.length := fun z => hj ⟨h, z⟩
      simp [hl]
    · simp [e]
theorem wipe_wipe (σ : L2.St) (vs : List Nat) : L2.wipe (L2.wipe σ vs) vs = L2.wipe σ vs := by
  apply List.ext_getElem?
  intro j
  rw [wipe_get, L2.wipe_length, wipe_get]
  by_cases hj : j ∈ vs ∧ j < σ.length
  · rw [if_pos hj, if_pos hj]
  · rw [if_neg hj]
theorem gNs_wipe {g : G} {Q : L2.St → Hp → Prop} {ρ' : Env} {vs : List Nat} : ∀ {is : List Nat} {ds : List D} {xs : List V} {ρ : Env} {σ : L2.St}, (∀ i ∈ is, i ∈ vs) → RepL g ds xs → EnvOk g ρ σ → setD is ds ρ = some ρ' → (∀ σ', EnvOk g ρ' σ' → L2.wipe σ' vs = L2.wipe σ vs → Q σ' g.H) → gNs is xs σ g.H Q
  | [], [], _, _, σ, _, r, v, h, q => by cases r; cases h; exact ⟨rfl, q σ v rfl⟩
  | i :: is, d :: ds, _, ρ, σ, hm, r, v, h, q => by
    obtain ⟨w, ws, rfl, r1, r2⟩ := r
    exact ⟨w, ws, rfl, gNs_wipe (fun j hj => hm j (List.mem_cons_of_mem _ hj)) r2 (v.set i r1) h fun σ' v' e => q σ' v' (e.trans (wipe_set (hm i List.mem_cons_self)))⟩
  | [], _ :: _, _, _, _, _, _, _, h, _ => by simp [setD] at h
  | _ :: _, [], _, _, _, _, _, _, h, _ => by simp [setD] at h
section
variable {X : Cx} {F : Fx} {pos : Pos} {es : List Expr}
theorem sw_nm (i : Nat) {x : Str} {vs : List Nat} (hN : X.N.Nodup) (hv : i ∈ vs := by decide) (hi : X.N[i]? = some x := by rfl) (hx : Loc X.env.scope x := by first | exact .inl rfl | exact .inr rfl) (hf : X.fn x = true ∨ X.env.scope.names.lookup x = some .local := by first | exact .inl rfl | exact .inr rfl | assumption) : SGw X F (.Name x pos) (aNm i) vs :=
  PG.imp (pg_name hN hi hx hf) fun v σ H Q ⟨g, ρ, ρ', d, e1, e2, m, w, r, ea, q⟩ => by cases ea; exact q _ (w.set i r) (wipe_set hv)
theorem sw_tup {is : List Nat} {k : Nat} {vs : List Nat} (hF : F.K = X.K) (hc : X.calm = true) (h : SGs X es is) (hv : ∀ i ∈ is, i ∈ vs := by decide) (hn : (assignEach es X.env).length = is.length := by rfl) (hst : (assignEach es X.env).findIdx? (·.1) = none := by rfl) : SGw X F (.Tuple es k pos) (aTup is) vs :=
  PG.imp (pg_tup hc h hn hst) fun v σ H Q ⟨g, ρ, ρ', d, e1, e2, m, w, r, ea, q⟩ => by
    subst e2
    cases d with
    | tup ds =>
      obtain ⟨a, xs, rfl, q1, t⟩ := r
      have eK : g.K = X.K := by rw [← hF, ← e1]; rfl
      exact ⟨a, xs, rfl, eK ▸ q1.sq, by rw [← t.length]; exact setD_len ea, gNs_wipe hv t w ea q⟩
    | _ => cases ea
end

/-- the list in the making is written -/
theorem Pre.pok {g : G} {p : Addr} {o : HO} (hp : p ∈ g.ex) : Pre g (g.put p o) where
  k := rfl
  cl := rfl
  xc := rfl
  xo := rfl
  α := ⟨[], by simp [G.put]⟩
  h := fun b u e n => by
    show upd g.H p o b = _
    rw [upd_ne (neP n (.inr hp))]; exact e
  p := fun a z => .inl z
theorem MemOk.pok {g : G} (m : MemOk g) {p : Addr} {o : HO} (hp : p ∈ g.ex) : MemOk (g.put p o) where
  len := m.len
  nd := m.nd
  tr := fun a ha => by
    show upd g.H p o a ≠ none
    rw [upd_ne (neM ha (m.exd p hp).1)]; exact m.tr a ha
  exd := fun a ha => ⟨(m.exd a ha).1, by
    show upd g.H p o a ≠ none
    by_cases e : a = p
    · subst e; rw [upd_same]; simp
    · rw [upd_ne e]; exact (m.exd a ha).2⟩
  cells := fun n a c x y => (m.cells n a c x y).pre (Pre.pok hp) fun _ => by
    show upd g.H p o a = _
    rw [upd_ne (neM (List.mem_of_getElem? x) (m.exd p hp).1)]
theorem Ext.pok {g g' : G} (e : Ext g g') (m : MemOk g) {p : Addr} {o : HO} (h : g.H p = none) : Ext g (g'.put p o) where
  k := e.k
  cl := e.cl
  xc := e.xc
  xo := e.xo
  α := e.α
  h := fun b u q n => by
    show upd g'.H p o b = _
    rw [upd_ne (ne_of_none q h)]; exact e.h b u q n
  x := fun b hb => by
    show upd g'.H p o b = _
    rw [upd_ne (neM hb (m.fresh h).2.1)]; exact e.x b hb
  s := e.s
  p := e.p
/-- p is nobody's, for a while -/
def G.hold (g : G) (p : Addr) (o : HO) : G := { g with H := upd g.H p o, ex := p :: g.ex }
theorem Ext.hold {g : G} (m : MemOk g) {p : Addr} {o : HO} (h : g.H p = none) : Ext g (g.hold p o) where
  k := rfl
  cl := rfl
  xc := rfl
  xo := rfl
  α := ⟨[], by simp [G.hold]⟩
  h := fun b u e _ => by
    show upd g.H p o b = _
    rw [upd_ne (ne_of_none e h)]; exact e
  x := fun b hb => by
    show upd g.H p o b = _
    rw [upd_ne (neM hb (m.fresh h).2.1)]
  s := fun _ h => List.mem_cons_of_mem _ h
  p := fun a z => by
    rcases z with z | z
    · exact .inl (.inl z)
    · rcases List.mem_cons.mp z with z | z
      · exact .inr (by rw [z]; exact h)
      · exact .inl (.inr z)
theorem MemOk.hold {g : G} (m : MemOk g) {p : Addr} {o : HO} (h : g.H p = none) : MemOk (g.hold p o) where
  len := m.len
  nd := m.nd
  tr := fun a ha => by
    show upd g.H p o a ≠ none
    rw [upd_ne (neN (m.tr a ha) h)]; exact m.tr a ha
  exd := fun a ha => by
    rcases List.mem_cons.mp ha with e | ha
    · subst e
      exact ⟨(m.fresh h).1, by show upd g.H a o a ≠ none; rw [upd_same]; simp⟩
    · exact ⟨(m.exd a ha).1, by
        show upd g.H p o a ≠ none
        rw [upd_ne (neN (m.exd a ha).2 h)]; exact (m.exd a ha).2⟩
  cells := fun n a c x y => (m.cells n a c x y).mono (Ext.hold m h) fun _ => by
    show upd g.H p o a = _
    rw [upd_ne (neN (m.tr a (List.mem_of_getElem? x)) h)]
/-- .. and then it is a new one -/
def G.less (g : G) (p : Addr) (l : List Addr) : G := { g with H := fun b => if b = p then none else g.H b, ex := l }
theorem less_ne {g : G} {p : Addr} {l : List Addr} {b : Addr} (h : b ≠ p) : (g.less p l).H b = g.H b := if_neg h
theorem less_upd {g : G} {p : Addr} {l : List Addr} {o : HO} (h : g.H p = some o) : upd (g.less p l).H p o = g.H := by
  funext b
  by_cases e : b = p
  · subst e; rw [upd_same, h]
  · rw [upd_ne e, less_ne e]
theorem Pre.less {g : G} {p : Addr} {l : List Addr} (hp : p ∈ g.ex) (hl : ∀ b ∈ l, b ∈ g.ex) : Pre g (g.less p l) where
  k := rfl
  cl := rfl
  xc := rfl
  xo := rfl
  α := ⟨[], by simp [G.less]⟩
  h := fun b u e n => by rw [less_ne (neP n (.inr hp))]; exact e
  p := fun a z => z.elim (fun z => .inl (.inl z)) fun z => .inl (.inr (hl a z))
theorem MemOk.less {g : G} (m : MemOk g) {p : Addr} {l : List Addr} (hp : p ∈ g.ex) (hl : ∀ b ∈ l, b ∈ g.ex) (hn : p ∉ l) : MemOk (g.less p l) where
  len := m.len
  nd := m.nd
  tr := fun a ha => by rw [less_ne (neM ha (m.exd p hp).1)]; exact m.tr a ha
  exd := fun a ha => ⟨(m.exd a (hl a ha)).1, by rw [less_ne (neM ha hn)]; exact (m.exd a (hl a ha)).2⟩
  cells := fun n a c x y => (m.cells n a c x y).pre (Pre.less hp hl) fun _ => less_ne (neM (List.mem_of_getElem? x) (m.exd p hp).1)
theorem Ext.less {g g' : G} (e : Ext g g') (m : MemOk g) {p : Addr} (h : g.H p = none) : Ext g (g'.less p g.ex) where
  k := e.k
  cl := e.cl
  xc := e.xc
  xo := e.xo
  α := e.α
  h := fun b u q n => by rw [less_ne (ne_of_none q h)]; exact e.h b u q n
  x := fun b hb => by rw [less_ne (neM hb (m.fresh h).2.1)]; exact e.x b hb
  s := fun _ h => h
  p := fun a z => by
    rcases z with z | z
    · exact e.p a (.inl z)
    · exact .inl (.inr z)
abbrev W0 : WX := fun _ _ _ _ => False
section
variable {X : Cx} {F : Fx} {W : WX} {elt tg iter c : Expr} {ifs : List Expr} {scope : Scope} {own : List (Str × Nat)} {fi : SemI} {a : Tgt} {t : SemT} {fe : Sem} {pos : Pos}
def SPt (X : Cx) (F : Fx) (W : WX) (ifs : List Expr) (t : SemT) : Prop := PTs X ifs (tT F W t)
theorem spt_nil : SPt X F W [] tYes := ⟨fun pins s σ H Q I ⟨g, ρ, e1, e2, m, v, o⟩ => pts_nil.run pins s σ H Q I (by subst e2; exact Out.here (a := true) o m rfl)⟩
theorem spt_one (h : ST X F W c t) : SPt X F W [c] t := pts_one h
/-- the turns of a comprehension -/
theorem lc_turns {own : List Nat} {σ : L2.St} {ρ : Env} {g1 : G} {J : It} {w : Wk} {Q : V → Hp → Prop} (e1 : g1.fx = F) (m1 : MemOk g1) (v : EnvOk g1 ρ σ) (rw1 : RepI g1 w J) (gd1 : w.gd.ok g1.μ) (hlen : w.ds.length ≤ sizeLine)
    (o1 : Out RepL (fun c d H' => W c d σ H') g1 (lcL w.gd a t fe (wipeD ρ own) w.ds g1.μ) fun xs H' => ∀ p, H' p = none → Q (.ref p) (upd H' p (.lst xs))) (d0 : Addr) (hD : g1.H d0 = none) :
    ∃ Wi : Nat → Nat → Hp → Prop, (∃ m, Wi 0 m (upd g1.H d0 (.lst []))) ∧ ∀ i m H, Wi i m H → (J.stop i H ∧ Q (.ref d0) H) ∨ (J.go i H ∧ ∃ Nx : Hp → Prop, (∀ H', Nx H' → ∃ m', m' < m ∧ Wi (i + 1) m' H') ∧ ∀ x H', J.yld i H x H' →
      gW F a own x (L2.wipe σ own) H' fun σ2 H2 => L2.wipe σ2 own = L2.wipe σ own ∧ tT F W0 t σ2 H2 fun b H3 => if b = true then tE F W0 fe σ2 H3 fun y H4 => ∃ acc, H4 d0 = some (.lst acc) ∧ acc.length < sizeLine ∧ Nx (upd H4 d0 (.lst (acc ++ [y]))) else Nx H3) := by
  rcases lcL_cases w.ds g1.μ (gd := w.gd) (a := a) (t := t) (e := fe) (ρ := wipeD ρ own) with hb | ⟨total, μf, htot⟩
  · rw [hb] at o1; exact o1.elim
  rw [htot] at o1
  have hle := lcL_len _ _ _ _ htot
  let Inv2 : Nat → Hp → Prop := fun i H => ∃ (g2 : G) (acc : List V) (done rest : List D), g2.H = H ∧ Ext g1 g2 ∧ MemOk g2 ∧ d0 ∈ g2.ex ∧ g2.H d0 = some (.lst acc) ∧ RepL g2 done acc ∧ w.gd.ok g2.μ ∧ i ≤ w.ds.length ∧ lcL w.gd a t fe (wipeD ρ own) (w.ds.drop i) g2.μ = .ok rest μf ∧ done ++ rest = total
  refine ⟨fun i n H => Inv2 i H ∧ i + n = w.ds.length, ⟨w.ds.length, ⟨g1.hold d0 (.lst []), [], [], total, rfl, Ext.hold m1 hD, m1.hold hD, List.mem_cons_self, upd_same, RepL.nil, gd1, Nat.zero_le _, htot, rfl⟩, by omega⟩, ?_⟩
  rintro i n H ⟨⟨g2, acc, done, rest, rfl, x2, m2, dex, hacc, racc, gd2, hi, hl, et⟩, en⟩
  cases hd : w.ds[i]? with
  | none =>
    have hl2 : w.ds.length ≤ i := List.getElem?_eq_none_iff.mp hd
    have hi2 : i = w.ds.length := by omega
    refine .inl ⟨(rw1 g2 x2 m2 gd2 i).2 hi2, ?_⟩
    rw [List.drop_of_length_le hl2, lcL] at hl
    cases hl
    rw [List.append_nil] at et
    subst et
    have dn : d0 ∉ g1.ex := (m1.fresh hD).2.1
    have q := o1 (g2.less d0 g1.ex) acc rfl (m2.less dex x2.s dn) (Ext.less x2 m1 hD) (racc.pre (Pre.less dex x2.s)) d0 (if_pos rfl)
    rwa [less_upd hacc] at q
  | some d =>
    obtain ⟨go, yl⟩ := (rw1 g2 x2 m2 gd2 i).1 d hd
    have hlt : i < w.ds.length := (List.getElem?_eq_some_iff.mp hd).1
    have ed : w.ds.drop i = d :: w.ds.drop (i + 1) := by
      rw [List.drop_eq_getElem_cons hlt]
      rw [List.getElem?_eq_getElem hlt] at hd
      rw [Option.some.inj hd]
    rw [ed, lcL] at hl
    refine .inr ⟨go, Inv2 (i + 1), fun H' h' => ⟨n - 1, by omega, h', by omega⟩, fun x H' hy => ?_⟩
    obtain ⟨g3, rfl, em, m3, x3, r3⟩ := yl x H' hy
    have x13 := x2.trans x3
    cases ea : a d (wipeD ρ own) with
    | none => rw [ea] at hl; cases hl
    | some ρ3 =>
      rw [ea] at hl
      refine ⟨g3, wipeD ρ own, ρ3, d, x13.fx.trans e1, rfl, m3, (v.mono x13).wipe own, r3, ea, fun σ3 v3 ew => ?_⟩
      refine ⟨by rw [ew, wipe_wipe], ?_⟩
      obtain ⟨k, μ4, ht, hl⟩ := bindB_ok hl
      rw [← em] at ht
      refine ⟨g3, ρ3, x13.fx.trans e1, rfl, m3, v3, ?_⟩
      rw [ht]
      intro g4 b em4 m4 x4 rb
      cases rb
      subst em4
      have dex3 : d0 ∈ g3.ex := x3.s d0 dex
      have dex4 : d0 ∈ g4.ex := x4.s d0 dex3
      have hacc4 : g4.H d0 = some (.lst acc) := by rw [x4.x d0 dex3, x3.x d0 dex]; exact hacc
      cases k with
      | false =>
        rw [if_neg Bool.false_ne_true] at hl ⊢
        obtain ⟨gd4, hl⟩ := lcG_ok hl
        exact ⟨g4, acc, done, rest, rfl, x13.trans x4, m4, dex4, hacc4, (racc.mono x3).mono x4, gd4, hlt, hl, et⟩
      | true =>
        rw [if_pos rfl] at hl ⊢
        obtain ⟨y, μ5, he, hl⟩ := bindB_ok hl
        obtain ⟨gd5, hl⟩ := lcG_ok hl
        obtain ⟨zs, μ6, hz, hl⟩ := bindB_ok hl
        cases hl
        refine ⟨g4, ρ3, x4.fx.trans (x13.fx.trans e1), rfl, m4, v3.mono x4, ?_⟩
        rw [he]
        intro g5 yv em5 m5 x5 ry
        subst em5
        have dex5 : d0 ∈ g5.ex := x5.s d0 dex4
        have hacc5 : g5.H d0 = some (.lst acc) := by rw [x5.x d0 dex4]; exact hacc4
        have rd : RepL g5 done acc := ((racc.mono x3).mono x4).mono x5
        refine ⟨acc, hacc5, ?_, g5.put d0 (.lst (acc ++ [yv])), acc ++ [yv], done ++ [y], zs, rfl, Ext.pok ((x13.trans x4).trans x5) m1 hD, m5.pok dex5, dex5, upd_same, (rd.app (RepL.cons ry RepL.nil)).pre (Pre.pok dex5), gd5, hlt, hz, by rw [List.append_assoc]; exact et⟩
        have h1 : done.length + (y :: zs).length ≤ w.ds.length := by rw [← List.length_append, et]; exact hle
        have h2 := rd.length
        simp only [List.length_cons] at h1
        omega
theorem sf_lc (hN : X.N.Nodup) (hc : X.calm = true) (hi : SI X F W tg iter fi) (ok : BlkOk X.N X.env.scope scope own)
    (hg : ∀ (s : Shared) (H : Hp) (C : Addr) (cl : List (Str × Addr)) (fp : List Addr), SGw (X.blk s H scope (compEnvC scope cl C X.env) fp) F tg a (own.map (·.2)))
    (ht : ∀ (s : Shared) (H : Hp) (C : Addr) (cl : List (Str × Addr)) (fp : List Addr), SPt (X.blk s H scope (compEnvC scope cl C X.env) fp) F W0 ifs t)
    (he : ∀ (s : Shared) (H : Hp) (C : Addr) (cl : List (Str × Addr)) (fp : List Addr), SE (X.blk s H scope (compEnvC scope cl C X.env) fp) F W0 elt fe) (hs : ∀ x, foldedSetIterable iter X.env x = pure x := by intro _; rfl) :
    SF X F W (.ListComp elt [⟨tg, iter, ifs, 0⟩] scope pos) (fLc fi a t fe (own.map (·.2))) :=
  PE.imp (pe_lc hc hN hi.pi ok hg ht he hs) fun σ H Q ⟨g, ρ, e1, e2, m, v, o⟩ => by
    refine ⟨g, ρ, e1, e2, m, v, o.of_bind fun w g1 J m1 x1 ⟨rw1, gd1⟩ o1 D hD => ?_⟩
    by_cases hlen : w.ds.length ≤ sizeLine
    · rw [if_pos hlen] at o1
      exact lc_turns (x1.fx.trans e1) m1 (v.mono x1) rw1 gd1 hlen o1 D hD
    · rw [if_neg hlen] at o1; exact o1.elim
/-- name = [..] on one line -/
theorem ss_setLc (i : Nat) {y : Str} {py spos : Pos} (bx : Bool) (hN : X.N.Nodup) (hc : X.calm = true) (hi : SI X F W tg iter fi) (ok : BlkOk X.N X.env.scope scope own)
    (hg : ∀ (s : Shared) (H : Hp) (C : Addr) (cl : List (Str × Addr)) (fp : List Addr), SGw (X.blk s H scope (compEnvC scope cl C X.env) fp) F tg a (own.map (·.2)))
    (ht : ∀ (s : Shared) (H : Hp) (C : Addr) (cl : List (Str × Addr)) (fp : List Addr), SPt (X.blk s H scope (compEnvC scope cl C X.env) fp) F W0 ifs t)
    (he : ∀ (s : Shared) (H : Hp) (C : Addr) (cl : List (Str × Addr)) (fp : List Addr), SE (X.blk s H scope (compEnvC scope cl C X.env) fp) F W0 elt fe)
    (hy : X.N[i]? = some y := by rfl) (hyl : X.env.scope.names.lookup y = some .local := by rfl) (hsw : swapsWith (.ListComp elt [⟨tg, iter, ifs, 0⟩] scope pos) (some (.Name y py)) spos.line X.env = pure true := by exact sw_true rfl rfl rfl (by decide +kernel)) (hs : ∀ x, foldedSetIterable iter X.env x = pure x := by intro _; rfl) :
    SS X F W (.Assign [.Name y py] (.ListComp elt [⟨tg, iter, ifs, 0⟩] scope pos) spos) (sSet i ((if bx = true then fBox else fTree) (fLc fi a t fe (own.map (·.2))))) :=
  PS.imp (ps_setLc hc hN hy hyl hsw hi.pi ok hg ht he hs) fun D σ H ⟨g, ρ, e1, e2, m, v, o⟩ => by
    have key : OutS D W g ((fi ρ g.μ).s ρ fun w μ => (if w.ds.length ≤ sizeLine then lcL w.gd a t fe (wipeD ρ (own.map (·.2))) w.ds μ else R.bad).s ρ fun ds μ => if bx = true then .next (ρ.set i (some (.obj μ.length))) (μ ++ [.lst ds]) else .next (ρ.set i (some (.lst ds))) μ) := by
      unfold sSet at o
      cases bx with
      | true =>
        rw [if_pos rfl] at o
        unfold fBox fLc at o
        cases h1 : fi ρ g.μ with
        | bad => rw [h1] at o; exact o
        | exc e μ => rw [h1] at o; exact o
        | ok w μ =>
          rw [h1] at o
          show OutS D W g ((if w.ds.length ≤ sizeLine then lcL w.gd a t fe (wipeD ρ (own.map (·.2))) w.ds μ else R.bad).s ρ _)
          have o : OutS D W g (((if w.ds.length ≤ sizeLine then lcL w.gd a t fe (wipeD ρ (own.map (·.2))) w.ds μ else R.bad).bind fun ds μ => R.ok (.obj μ.length) (μ ++ [.lst ds])).s ρ fun d μ => .next (ρ.set i (some d)) μ) := o
          cases h2 : (if w.ds.length ≤ sizeLine then lcL w.gd a t fe (wipeD ρ (own.map (·.2))) w.ds μ else R.bad) with
          | bad => rw [h2] at o; exact o
          | exc e μ => rw [h2] at o; exact o
          | ok ds μ => rw [h2] at o; exact o
      | false =>
        rw [if_neg Bool.false_ne_true] at o
        unfold fTree fLc at o
        cases h1 : fi ρ g.μ with
        | bad => rw [h1] at o; exact o
        | exc e μ => rw [h1] at o; exact o
        | ok w μ =>
          rw [h1] at o
          show OutS D W g ((if w.ds.length ≤ sizeLine then lcL w.gd a t fe (wipeD ρ (own.map (·.2))) w.ds μ else R.bad).s ρ _)
          have o : OutS D W g (((if w.ds.length ≤ sizeLine then lcL w.gd a t fe (wipeD ρ (own.map (·.2))) w.ds μ else R.bad).bind fun ds μ => R.ok (.lst ds) μ).s ρ fun d μ => .next (ρ.set i (some d)) μ) := o
          cases h2 : (if w.ds.length ≤ sizeLine then lcL w.gd a t fe (wipeD ρ (own.map (·.2))) w.ds μ else R.bad) with
          | bad => rw [h2] at o; exact o
          | exc e μ => rw [h2] at o; exact o
          | ok ds μ => rw [h2] at o; exact o
    refine ⟨g, ρ, e1, e2, m, v, key.ex v fun w g1 J m1 x1 ⟨rw1, gd1⟩ o1 D' hD => ?_⟩
    by_cases hlen : w.ds.length ≤ sizeLine
    · rw [if_pos hlen] at o1
      refine lc_turns (W := W) (Q := fun x H1 => D.nx (σ.set i (some x)) H1) (x1.fx.trans e1) m1 (v.mono x1) rw1 gd1 hlen (o1.ex (v.mono x1) fun ds g2 xs m2 x2 r2 o2 p hp => ?_) D' hD
      cases bx with
      | true =>
        rw [if_pos rfl] at o2
        exact o2 (g2.new p (.lst xs) (.lst ds)) _ rfl (new_lst m2 hp r2) (Ext.new m2 hp) (((v.mono x1).mono (x2.trans (Ext.new m2 hp))).set i (new_at g2 m2 p _ _))
      | false =>
        rw [if_neg Bool.false_ne_true] at o2
        exact o2 (g2.put p (.lst xs)) _ rfl (m2.put hp) (Ext.put hp (m2.fresh hp).2.1) (((v.mono x1).mono (x2.trans (Ext.put hp (m2.fresh hp).2.1))).set i (put_lst m2 hp r2))
    · rw [if_neg hlen] at o1; exact o1.elim
end
end Z

namespace Z
open PySem PySem.Spec PyProof.Rows L2

/-! ### what a def does -/
mutual
def D.lo (m : Nat) : D → Bool
  | .tup ds => D.los m ds
  | .lst ds => D.los m ds
  | .sq ds => D.los m ds
  | .dic _ ds => D.los m ds
  | .obj n => decide (n < m)
  | .exn _ _ ds => D.los m ds
  | _ => true
def D.los (m : Nat) : List D → Bool
  | [] => true
  | d :: ds => D.lo m d && D.los m ds
end
theorem D.los_all (m : Nat) : ∀ ds : List D, D.los m ds = ds.all (D.lo m)
  | [] => by simp [D.los]
  | d :: ds => by rw [D.los, D.los_all m ds, List.all_cons]
def Cell.below (m : Nat) : Cell → Bool
  | .lst ds => D.los m ds
  | .dic _ ds => D.los m ds
  | .diT _ ds => D.los m ds
  | .ins _ fs => D.los m (fs.map (·.2))
  | .fz d => D.lo m d
mutual
theorem rep_below {g : G} : ∀ (d : D) (v : V), Rep g d v → D.lo g.α.length d = true
  | .non, _, _ => rfl
  | .bl _, _, _ => rfl
  | .int _, _, _ => rfl
  | .str _, _, _ => rfl
  | .tup ds, _, h => by obtain ⟨a, xs, _, _, t⟩ := h; simpa [D.lo] using repL_below ds xs t
  | .lst ds, _, h => by obtain ⟨a, xs, _, _, t⟩ := h; simpa [D.lo] using repL_below ds xs t
  | .sq ds, _, h => by obtain ⟨a, xs, _, _, t⟩ := h; simpa [D.lo] using repL_below ds xs t
  | .dic ks ds, _, h => by obtain ⟨a, xs, _, _, _, t⟩ := h; simpa [D.lo] using repL_below ds xs t
  | .obj n, _, h => by obtain ⟨a, q, _⟩ := h; simpa [D.lo] using (List.getElem?_eq_some_iff.mp q).1
  | .exn c ks ds, _, h => by
    obtain ⟨a, dd, _, _, t⟩ := h
    rcases t with ⟨_, rfl, _⟩ | ⟨d, xs, _, _, _, _, t⟩
    · rfl
    · simpa [D.lo] using repL_below ds xs t
theorem repL_below {g : G} : ∀ (ds : List D) (xs : List V), RepL g ds xs → D.los g.α.length ds = true
  | [], _, _ => rfl
  | d :: ds, _, h => by
    obtain ⟨v, vs, _, r, t⟩ := h
    simp [D.los, rep_below d v r, repL_below ds vs t]
end
theorem cell_below {g : G} {a : Addr} : ∀ {c : Cell}, CellRep g a c → c.below g.α.length = true
  | .lst ds, ⟨xs, _, t⟩ => repL_below ds xs t
  | .dic ks ds, ⟨xs, _, _, t⟩ => repL_below ds xs t
  | .diT ks ds, ⟨xs, _, _, t⟩ => repL_below ds xs t
  | .ins c fs, ⟨C, dx, xs, _, _, _, t⟩ => repL_below _ xs t
  | .fz d, r => rep_below d _ r
mutual
theorem below_le {m n : Nat} (h : m ≤ n) : ∀ d : D, D.lo m d = true → D.lo n d = true
  | .non, _ => rfl
  | .bl _, _ => rfl
  | .int _, _ => rfl
  | .str _, _ => rfl
  | .tup ds, q => by simp only [D.lo] at q ⊢; exact belows_le h ds q
  | .lst ds, q => by simp only [D.lo] at q ⊢; exact belows_le h ds q
  | .sq ds, q => by simp only [D.lo] at q ⊢; exact belows_le h ds q
  | .dic ks ds, q => by simp only [D.lo] at q ⊢; exact belows_le h ds q
  | .obj i, q => by simp only [D.lo, decide_eq_true_eq] at q ⊢; omega
  | .exn c ks ds, q => by simp only [D.lo] at q ⊢; exact belows_le h ds q
theorem belows_le {m n : Nat} (h : m ≤ n) : ∀ ds : List D, D.los m ds = true → D.los n ds = true
  | [], _ => rfl
  | d :: ds, q => by
    simp only [D.los, Bool.and_eq_true] at q ⊢
    exact ⟨below_le h d q.1, belows_le h ds q.2⟩
end
theorem cbelow_le {m n : Nat} (h : m ≤ n) : ∀ {c : Cell}, c.below m = true → c.below n = true
  | .lst ds, q => belows_le h ds q
  | .dic ks ds, q => belows_le h ds q
  | .diT ks ds, q => belows_le h ds q
  | .ins c fs, q => belows_le h _ q
  | .fz d, q => below_le h d q
/-- cells of one's own are left behind -/
def G.cut (g : G) (m : Nat) : G := { g with α := g.α.take m, μ := g.μ.take m }
theorem take_get {α : Type} {l : List α} {m n : Nat} {a : α} (h : (l.take m)[n]? = some a) : l[n]? = some a ∧ n < m := by
  rw [List.getElem?_take] at h
  split at h
  · exact ⟨h, by assumption⟩
  · cases h
theorem get_take {α : Type} {l : List α} {m n : Nat} {a : α} (h : l[n]? = some a) (hn : n < m) : (l.take m)[n]? = some a := by
  rw [List.getElem?_take, if_pos hn]; exact h
theorem cut_P {g : G} {m : Nat} {a : Addr} (h : (g.cut m).P a) : g.P a := by
  rcases h with ⟨n, c, x, y, z⟩ | h
  · exact .inl ⟨n, c, (take_get x).1, (take_get y).1, z⟩
  · exact .inr h
mutual
theorem rep_cut {g : G} {m : Nat} : ∀ (d : D) (v : V), Rep g d v → D.lo m d = true → Rep (g.cut m) d v
  | .non, _, h, _ => h
  | .bl _, _, h, _ => h
  | .int _, _, h, _ => h
  | .str _, _, h, _ => h
  | .tup ds, _, h, q => by
    obtain ⟨a, xs, e, t, r⟩ := h
    refine ⟨a, xs, e, ?_, repL_cut ds xs r (by simpa [D.lo] using q)⟩
    rcases t with t | t
    · exact .inl ⟨t.1, fun z => t.2 (cut_P z)⟩
    · exact .inr t
  | .lst ds, _, h, q => by
    obtain ⟨a, xs, e, t, r⟩ := h
    exact ⟨a, xs, e, ⟨t.1, fun z => t.2 (cut_P z)⟩, repL_cut ds xs r (by simpa [D.lo] using q)⟩
  | .sq ds, _, h, q => by
    obtain ⟨a, xs, e, t, r⟩ := h
    refine ⟨a, xs, e, ?_, repL_cut ds xs r (by simpa [D.lo] using q)⟩
    rcases t with t | t
    · exact .inl ⟨t.1, fun z => t.2 (cut_P z)⟩
    · exact .inr t
  | .dic ks ds, _, h, q => by
    obtain ⟨a, xs, e, t, l, r⟩ := h
    exact ⟨a, xs, e, ⟨t.1, fun z => t.2 (cut_P z)⟩, l, repL_cut ds xs r (by simpa [D.lo] using q)⟩
  | .obj n, _, h, q => by
    obtain ⟨a, e, r⟩ := h
    exact ⟨a, get_take e (by simpa [D.lo] using q), r⟩
  | .exn c ks ds, _, h, q => by
    obtain ⟨a, dd, e, r, t⟩ := h
    refine ⟨a, dd, e, r, t.imp id ?_⟩
    rintro ⟨d, xs, h1, h2, h3, h4, h5⟩
    exact ⟨d, xs, h1, h2, fun z => h3 (cut_P z), h4, repL_cut ds xs h5 (by simpa [D.lo] using q)⟩
theorem repL_cut {g : G} {m : Nat} : ∀ (ds : List D) (vs : List V), RepL g ds vs → D.los m ds = true → RepL (g.cut m) ds vs
  | [], _, h, _ => h
  | d :: ds, _, h, q => by
    obtain ⟨v, vs, e, r, t⟩ := h
    simp only [D.los, Bool.and_eq_true] at q
    exact ⟨v, vs, e, rep_cut d v r q.1, repL_cut ds vs t q.2⟩
end
theorem cell_cut {g : G} {m : Nat} {a : Addr} : ∀ {c : Cell}, CellRep g a c → c.below m = true → CellRep (g.cut m) a c
  | .lst ds, ⟨xs, x, r⟩, q => ⟨xs, x, repL_cut ds xs r q⟩
  | .dic ks ds, ⟨xs, x, l, r⟩, q => ⟨xs, x, l, repL_cut ds xs r q⟩
  | .diT ks ds, ⟨xs, x, l, r⟩, q => ⟨xs, x, l, repL_cut ds xs r q⟩
  | .ins c fs, ⟨C, dx, xs, k, x, l, r⟩, q => ⟨C, dx, xs, k, x, l, repL_cut _ xs r q⟩
  | .fz d, r, q => rep_cut d _ r q
theorem MemOk.cut {g : G} (m : MemOk g) {n : Nat} (h : ∀ (i : Nat) (c : Cell), i < n → g.μ[i]? = some c → c.below n = true) : MemOk (g.cut n) where
  len := by simp [G.cut, m.len]
  nd := m.nd.sublist (List.take_sublist n g.α)
  tr := fun a ha => m.tr a (List.mem_of_mem_take ha)
  exd := fun a ha => ⟨fun z => (m.exd a ha).1 (List.mem_of_mem_take z), (m.exd a ha).2⟩
  cells := fun i a c x y => cell_cut (m.cells i a c (take_get x).1 (take_get y).1) (h i c (take_get x).2 (take_get y).1)
theorem Ext.cut {g g' : G} (e : Ext g g') {n : Nat} (h : g.α.length ≤ n) : Ext g (g'.cut n) where
  k := e.k
  cl := e.cl
  xc := e.xc
  xo := e.xo
  α := by
    obtain ⟨β, q⟩ := e.α
    refine ⟨β.take (n - g.α.length), ?_⟩
    show g'.α.take n = _
    rw [q, List.take_append, List.take_of_length_le h]
  h := e.h
  x := e.x
  s := e.s
  p := fun a z => e.p a (cut_P z)
/-- the memory that one tells of, of the memory there is: μ0 the one at the entry -/
structure Tr (μ0 μ' μs : Mem) : Prop where
  le : μ0.length ≤ μs.length
  eq : μ'.take μs.length = μs
  low : μ' = μs ∨ ∀ (i : Nat) (c : Cell), μs[i]? = some c → μ0[i]? = some c ∨ c.below μs.length = true
theorem Tr.refl {μ0 μ : Mem} (h : μ0.length ≤ μ.length) : Tr μ0 μ μ := ⟨h, List.take_length, .inl rfl⟩
theorem Tr.same {μ0 μ' : Mem} {ex : List Cell} (h : μ' = μ0 ++ ex) : Tr μ0 μ' μ0 := ⟨Nat.le_refl _, by rw [h, List.take_left], .inr fun i c q => .inl q⟩
def Exl (m : Nat) (e : Ex) : Bool := D.los m (e.fs.map (·.2))
/-- what is told of a body's end -/
inductive Ref (μ0 : Mem) : R D → RS → Prop
  | bad {r : RS} : Ref μ0 .bad r
  | ret {d : D} {μ' μs : Mem} (t : Tr μ0 μ' μs) (b : μ' = μs ∨ D.lo μs.length d = true) : Ref μ0 (.ok d μs) (.ret d μ')
  | nx {ρ : Env} {μ' μs : Mem} (t : Tr μ0 μ' μs) : Ref μ0 (.ok .non μs) (.next ρ μ')
  | exc {e : Ex} {ρ : Env} {μ' μs : Mem} (t : Tr μ0 μ' μs) (b : μ' = μs ∨ Exl μs.length e = true) : Ref μ0 (.exc e μs) (.exc e ρ μ')
theorem Tr.cut {g g' : G} {μs : Mem} (m : MemOk g) (m' : MemOk g') (x : Ext g g') (t : Tr g.μ g'.μ μs) : ∃ g2 : G, g2.μ = μs ∧ g2.H = g'.H ∧ MemOk g2 ∧ Ext g g2 ∧ (g'.μ = μs → g2 = g') ∧ (g2 = g' ∨ g2 = g'.cut μs.length) := by
  rcases t.low with e | low
  · exact ⟨g', e, rfl, m', x, fun _ => rfl, .inl rfl⟩
  · by_cases e : g'.μ = μs
    · exact ⟨g', e, rfl, m', x, fun _ => rfl, .inl rfl⟩
    · refine ⟨g'.cut μs.length, t.eq, rfl, m'.cut fun i c hi hc => ?_, x.cut (by rw [m.len]; exact t.le), fun z => (e z).elim, .inr rfl⟩
      have hc2 : μs[i]? = some c := by rw [← t.eq]; exact get_take hc hi
      rcases low i c hc2 with q | q
      · obtain ⟨a, _, cr⟩ := m.at q
        exact cbelow_le (by rw [m.len]; exact t.le) (cell_below cr)
      · exact q
theorem ExRep.cut {g : G} {m : Nat} {e : Ex} {C : Value} {dd : Option Addr} (h : ExRep g e C dd) (b : Exl m e = true) : ExRep (g.cut m) e C dd := by
  obtain ⟨c, h1, h2, h3⟩ := h
  refine ⟨c, h1, h2, h3.imp id fun ⟨d, xs, q1, q2, q3, q4, q5, q6⟩ => ⟨d, xs, q1, q2, fun z => q3 (cut_P z), q4, repL_cut _ xs q5 b, q6⟩⟩
/-- from a body's end to what is told -/
theorem Ref.out {g : G} {r : R D} {rs : RS} {Q : VK} {E : XK} (m : MemOk g) (h : Ref g.μ r rs) (o : Out Rep E g r Q) : OutS { nx := fun _ H' => Q .non H', rt := Q } (fun c d _ H' => E c d H') g rs := by
  cases h with
  | bad => exact o.elim
  | @ret d μ' μs t b =>
    intro g1 v e m1 x r1
    subst e
    obtain ⟨g2, e2, eH, m2, x2, same, eg⟩ := Tr.cut m m1 x t
    rw [← eH]
    refine o g2 v e2 m2 x2 ?_
    rcases eg with eg | eg
    · rw [eg]; exact r1
    · rcases b with b | b
      · rw [same b]; exact r1
      · rw [eg]; exact rep_cut d v r1 b
  | @nx ρ μ' μs t =>
    intro g1 σ e m1 x v
    subst e
    obtain ⟨g2, e2, eH, m2, x2, same, eg⟩ := Tr.cut m m1 x t
    rw [← eH]
    exact o g2 .non e2 m2 x2 rfl
  | @exc ex ρ μ' μs t b =>
    intro g1 σ C dd e m1 x v w
    subst e
    obtain ⟨g2, e2, eH, m2, x2, same, eg⟩ := Tr.cut m m1 x t
    rw [← eH]
    refine o g2 C dd e2 m2 x2 ?_
    rcases eg with eg | eg
    · rw [eg]; exact w
    · rcases b with b | b
      · rw [same b]; exact w
      · rw [eg]; exact ExRep.cut w b
abbrev DFn := List D → Mem → R D
def spD (F : Fx) (n : Nat) (S : DFn) : Sp := fun vs H Q E => ∃ (g : G) (ds : List D), g.fx = F ∧ g.H = H ∧ MemOk g ∧ RepL g ds vs ∧ ds.length = n ∧ Out Rep E g (S ds g.μ) Q
def startD (N : Nat) (ds : List D) : Env := ds.map some ++ List.replicate (N - ds.length) none
theorem start_ok {g : G} {N : List Str} {ds : List D} {vs : List V} (r : RepL g ds vs) : EnvOk g (startD N.length ds) (L2.start N vs) := by
  have hl := r.length
  refine ⟨by simp [startD, L2.start, hl], fun i d h => ?_⟩
  unfold startD at h
  by_cases hi : i < ds.length
  · rw [List.getElem?_append_left (by simpa using hi), List.getElem?_map] at h
    cases e : ds[i]? with
    | none => rw [e] at h; cases h
    | some d' =>
      rw [e] at h
      have e' : d' = d := by simpa using h
      subst e'
      obtain ⟨v, hv, rv⟩ := r.get' e
      refine ⟨v, ?_, rv⟩
      unfold L2.start
      rw [List.getElem?_append_left (by rw [List.length_map, ← hl]; exact hi), List.getElem?_map, hv]
      rfl
  · rw [List.getElem?_append_right (by simpa using hi)] at h
    have := List.mem_of_getElem? h
    rw [List.mem_replicate] at this
    cases this.2
/-- a def of the text, by its body -/
theorem fnD {P : Program} {w : World} {K : PySem.W.Frag} {mg : Str → Option Value} {base : Heap} {x qual : Str} {st : Stmt} {f : Addr} {fd : FuncData} {N ps : List Str} {k n : Nat} {F : Fx} {S : DFn} {b : SemS} (Fn : Fun K x qual st f fd) (sc : FnScope N ps (defScope st)) (hn : ps.length = n)
    (body : ∀ (cdv : Value) (A : Around) (outer : List PySem.Env) (s : Shared) (H : Hp) (E : XK), Room k (A.deeper (envOfC qual (defScope st) s.heap.objs.size f cdv)) → SSs (cxOf (L2.CX P w) P w K mg base N qual (defScope st) f cdv A outer s H E) F (fun c d _ H' => E c d H') (defBody st) b)
    (told : ∀ (ds : List D) (μ : Mem), ds.length = n → Ref μ (S ds μ) (b (startD N.length ds) μ)) : FnOk P w K mg base (L2.CX P w) (k + 1) f fd ps (spD F n S) :=
  Fn.okX sc (fun vs H Q E ⟨g, ds, _, _, _, r, l, _⟩ => by rw [← r.length, l, hn]) fun cdv A outer s H vs Q E hr ⟨g, ds, e1, e2, m, r, l, o⟩ =>
    ⟨_, body cdv A outer s H E hr, g, startD N.length ds, e1, e2, m, start_ok r, (told ds g.μ l).out m o⟩
theorem fnDD {P : Program} {w : World} {K : PySem.W.Frag} {mg : Str → Option Value} {base : Heap} {x qual : Str} {params : Arguments} {bd : List Stmt} {scope : Scope} {dvs : List V} {kws : List (Str × V)} {f : Addr} {fd : FuncData} {N ps : List Str} {k n : Nat} {F : Fx} {S : DFn} {b : SemS} (Fn : FunD K x qual params bd scope dvs kws f fd) (sc : FnScope N ps scope) (hn : ps.length = n)
    (body : ∀ (cdv : Value) (A : Around) (outer : List PySem.Env) (s : Shared) (H : Hp) (E : XK), Room k (A.deeper (envOfC qual scope s.heap.objs.size f cdv)) → SSs (cxOf (L2.CX P w) P w K mg base N qual scope f cdv A outer s H E) F (fun c d _ H' => E c d H') bd b)
    (told : ∀ (ds : List D) (μ : Mem), ds.length = n → Ref μ (S ds μ) (b (startD N.length ds) μ)) : FnOk P w K mg base (L2.CX P w) (k + 1) f fd ps (spD F n S) :=
  Fn.ok sc (fun vs H Q E ⟨g, ds, _, _, _, r, l, _⟩ => by rw [← r.length, l, hn]) fun cdv A outer s H vs Q E hr ⟨g, ds, e1, e2, m, r, l, o⟩ =>
    ⟨_, body cdv A outer s H E hr, g, startD N.length ds, e1, e2, m, start_ok r, (told ds g.μ l).out m o⟩
/-! ### calls -/
structure Cal (P : Program) (w : World) (K : PySem.W.Frag) (mg : Str → Option Value) (base : Heap) (F : Fx) (L : Nat) (x : Str) (n : Nat) (dds : List D) (S : DFn) : Prop where
  ex : ∃ (f : Addr) (fd : FuncData) (ps : List Str) (dvs : List V) (dsv : List Value), FnOk P w K mg base (L2.CX P w) L f fd ps (spD F n S) ∧ mg x = some (.ref f) ∧ PySem.W.keepIn K (.ref f) = true ∧ Binds K fd ps dsv ∧ Vals dvs dsv ∧ ∀ g : G, RepL g dds dvs
def fCall (S : DFn) (n : Nat) (dds : List D) (es : SemA) : Sem := fun ρ μ => (es ρ μ).bind fun ds μ => if (ds ++ dds).length = n then S (ds ++ dds) μ else .bad
section
variable {X : Cx} {F : Fx} {W : WX} {e : Expr} {es : List Expr} {fa : SemA} {x : Str} {p pos : Pos} {L n : Nat} {dds : List D} {S : DFn}
theorem run_cal {pins : List (Addr × Obj)} {σ : L2.St} {H : Hp} {s : Shared} {Q : VK} {us dsv : List Value} {vs dvs : List V} {f : Addr} {fd : FuncData} {ps : List Str} {sp : Sp} (Fn : FnOk X.prog X.w X.K X.mg X.base (L2.CX X.prog X.w) L f fd ps sp) (hr : Room L X.A) (hb : Binds X.K fd ps dsv) (hd : Vals dvs dsv) (tk : Takes X W)
    (I : Inv X pins σ H s) (r : Vals vs us) (h : sp (vs ++ dvs) H Q (WE W σ)) : wpAny (model X.prog X.w) X.A (call (.ref f) us) (EP X pins σ Q) X.xe s := by
  have r2 : Vals (vs ++ dvs) (us ++ dsv) := r.append hd
  have hl : (us ++ dsv).length = ps.length := by rw [← r2.length]; exact Fn.len _ _ _ _ h
  refine wpAny_call (codeAny_mono (Fn.run X.A X.stack s H ⟨us, []⟩ (us ++ dsv) (vs ++ dvs) Q (WE W σ) hr I.env0 (hb s us I.kIn hl) r2 h) fun r s' hq => ?_)
  cases r with
  | error e => exact passAt tk σ pins H s e s' I hq
  | ok fl =>
    cases fl with
    | ret u => exact I.after hq
    | next => exact False.elim hq
    | brk => exact False.elim hq
    | cont => exact False.elim hq
theorem se_call (c : Cal X.prog X.w X.K X.mg X.base F L x n dds S) (hr : Room L X.A) (tk : Takes X W) (ha : SA X F W (e :: es) fa) (hg : Gl X x := by rfl) (hdb : (x == ("__debug__" : Str)) = false := by decide)
    (he : starEach (e :: es) X.env = (false, eval e X.env) :: starEach es X.env := by rfl) (hpl : (backTo pos (starEach es X.env)).any (·.1) = false := by rfl) : SE X F W (.Call (.Name x p) (e :: es) [] pos) (fCall S n dds fa) := by
  obtain ⟨f, fd, ps, dvs, dsv, Fn, hm, hk, hb, hd, hrep⟩ := c.ex
  refine ⟨fun pins s σ H Q I h => ?_⟩
  have h2 : tA F W fa σ H (fun vs H1 => spD F n S (vs ++ dvs) H1 Q (WE W σ)) := tW.bind h fun g ρ ds vs e1 m v r o => by
    by_cases hl : (ds ++ dds).length = n
    · rw [if_pos hl] at o
      exact ⟨g, ds ++ dds, e1, rfl, m, r.app (hrep g), hl, o⟩
    · rw [if_neg hl] at o; exact o.elim
  refine wpAny_Call_Name_kw (ld_glob I hg hm ?_ hdb)
  refine PySem.W.callWith_K (h₀ := X.base) I.ok.mod.kin hk (thn (ha.run pos pins s σ H _ I h2) fun us s1 ⟨vs, H1, I1, r, q⟩ => ⟨I1.kIn, ?_⟩) he hpl
  exact run_cal Fn hr hb hd tk I1 r q
theorem se_call0 (c : Cal X.prog X.w X.K X.mg X.base F L x n dds S) (hr : Room L X.A) (tk : Takes X W) (hg : Gl X x := by rfl) (hdb : (x == ("__debug__" : Str)) = false := by decide) : SE X F W (.Call (.Name x p) [] [] pos) (fCall S n dds fNil) := by
  obtain ⟨f, fd, ps, dvs, dsv, Fn, hm, hk, hb, hd, hrep⟩ := c.ex
  refine ⟨fun pins s σ H Q I ⟨g, ρ, e1, e2, m, v, o⟩ => ?_⟩
  subst e2
  have h2 : spD F n S ([] ++ dvs) g.H Q (WE W σ) := by
    have o : Out Rep (fun c d H' => W c d σ H') g (if ([] ++ dds).length = n then S ([] ++ dds) g.μ else .bad) Q := o
    by_cases hl : ([] ++ dds).length = n
    · rw [if_pos hl] at o
      exact ⟨g, [] ++ dds, e1, rfl, m, hrep g, hl, o⟩
    · rw [if_neg hl] at o; exact o.elim
  refine wpAny_Call_Name_kw (ld_glob I hg hm ?_ hdb)
  exact PySem.W.callWith_K0 I.kIn hk (run_cal (us := []) Fn hr hb hd tk I .nil h2)
end
end Z

namespace Z
open PySem PySem.Spec PyProof.Rows L2

/-! ### items and slices -/
def lookD : List Key → List D → Key → Option D
  | k :: ks, d :: ds, j => if k = j then some d else lookD ks ds j
  | _, _, _ => none
theorem lookD_rep {g : G} {k : Key} : ∀ {ks : List Key} {ds : List D} {xs : List V}, ks.length = xs.length → RepL g ds xs → (lookD ks ds k = none ∧ valV (ks.zip xs) k = none) ∨ ∃ d x, lookD ks ds k = some d ∧ valV (ks.zip xs) k = some x ∧ Rep g d x
  | [], _, [], _, _ => .inl ⟨by cases ‹List D› <;> rfl, rfl⟩
  | j :: ks, [], _, h, r => by cases r; simp at h
  | j :: ks, d :: ds, _, h, r => by
    obtain ⟨v, vs, rfl, r1, r2⟩ := r
    by_cases e : j = k
    · subst e
      exact .inr ⟨d, v, by simp [lookD], by rw [List.zip_cons_cons, valV_pos rfl], r1⟩
    · have q := lookD_rep (g := g) (k := k) (ks := ks) (ds := ds) (xs := vs) (by simpa using h) r2
      simp only [lookD, e, if_false, List.zip_cons_cons]
      rw [valV_neg (show ¬ (j, v).1 = k from e)]
      exact q
  | [], _, _ :: _, h, _ => by simp at h
def dIx (x i : D) (μ : Mem) : R D := match x, i with
  | .str z, .int i => if z.length ≤ sizeLine then R.ofP μ ((atI z.cps.toList i).map fun c => .str ⟨#[c]⟩) else .bad
  | .tup ds, .int i => R.ofP μ (atI ds i)
  | x, i => match lstD μ x with
    | some ds => (match i with
      | .int j => R.ofP μ (atI ds j)
      | _ => .bad)
    | none => match dicD μ x, keyD i with
      | some (ks, ds), some k => R.ofP μ (lookD ks ds k)
      | _, _ => .bad
theorem cm_ix (x y : D) (μ : Mem) : (dIx x y μ).calm := by
  unfold dIx
  split
  · split
    · exact R.calm_ofP _ _
    · trivial
  · exact R.calm_ofP _ _
  · split
    · split
      · exact R.calm_ofP _ _
      · trivial
    · split
      · exact R.calm_ofP _ _
      · trivial
theorem atI_rep {g : G} {ds : List D} {xs : List V} {i : Int} {d : D} (r : RepL g ds xs) (h : atI ds i = some d) : ∃ x, atI xs i = some x ∧ Rep g d x := by
  unfold atI at h ⊢
  rw [← r.length]
  cases e : ixN ds.length i with
  | none => rw [e] at h; cases h
  | some j =>
    rw [e] at h
    exact r.get' h
section
variable {X : Cx} {F : Fx} {W : WX} {a b e : Expr} {fa fb : Sem} {pos : Pos}
def rIxK : R2 := fun x y H Q => ∃ p v, x = .ref p ∧ DGet H p y (some v) ∧ Q v H
theorem ix_dict (hu : X.A.units + 1 < cLine) : IxR X rIxK := by
  intro value slice pins s σ H x y v u Q I rx ry h hs
  obtain ⟨p, w, rfl, dg, q⟩ := h
  obtain rfl : v = Value.ref p := rx
  exact tail_any (dict_typeIs I dg) PySem.F.slot_dict_getitem.lookup (d_getItem hu I dg ry fun w' s3 I3 rw' => ⟨w, H, I3, rw', q⟩) hs
theorem ix_any (hF : F.K = X.K) (hu : X.A.units + 70 < cLine) : IxR X (rD2 F dIx) := by
  intro value slice pins s σ H x y v u Q I rx ry h hs
  obtain ⟨g, a, b, e, rfl, m, ra, rb, o⟩ := h
  have eK := fxK e hF
  unfold dIx at o
  split at o
  · cases ra; cases rb
    split at o
    · rename_i hl
      cases ec : atI _ _ with
      | none => rw [ec] at o; exact o.elim
      | some c =>
        rw [ec] at o
        exact ix_str value slice pins s σ g.H _ _ v u Q I rx ry ⟨_, _, c, rfl, rfl, hl, ec, Out.here (a := D.str ⟨#[c]⟩) o m rfl⟩ hs
    · exact o.elim
  · cases rb
    obtain ⟨d, ed, o⟩ := Out.ofP o
    obtain ⟨p, xs, rfl, q1, t⟩ := ra
    obtain ⟨w, hw, rw'⟩ := atI_rep t ed
    exact ix_tup value slice pins s σ g.H _ _ v u Q I rx ry ⟨p, xs, _, w, rfl, rfl, eK ▸ q1.sq, hw, o.here m rw'⟩ hs
  · split at o
    · rename_i ds hl
      split at o
      · cases rb
        obtain ⟨d, ed, o⟩ := Out.ofP o
        obtain ⟨p, xs, rfl, q1, t⟩ := lstD_rep m ra hl
        obtain ⟨w, hw, rw'⟩ := atI_rep t ed
        exact ix_list value slice pins s σ g.H _ _ v u Q I rx ry ⟨p, xs, _, w, rfl, rfl, eK ▸ q1, hw, o.here m rw'⟩ hs
      · exact o.elim
    · split at o
      · rename_i ks ds k h1 h2
        obtain ⟨d, ed, o⟩ := Out.ofP o
        obtain ⟨p, xs, rfl, q1, l, t⟩ := dicD_rep m ra h1
        have e3 := keyD_rep rb h2
        subst e3
        rcases lookD_rep (k := k) l t with ⟨q, _⟩ | ⟨d', w, q, hv, rw'⟩
        · rw [q] at ed; cases ed
        · rw [q] at ed; cases ed
          exact ix_dict (by omega) value slice pins s σ g.H _ _ v u Q I rx ry ⟨p, w, rfl, .inl ⟨_, _, q1, rfl, hv.symm⟩, o.here m rw'⟩ hs
      · exact o.elim
def fIx (a b : Sem) : Sem := fOp2 dIx a b
theorem se_ix (hF : F.K = X.K) (hu : X.A.units + 70 < cLine) (ha : SE X F W a fa) (hb : SE X F W b fb) (hs : PlainIx b := by exact fun _ _ => rfl) : SE X F W (.Subscript a b pos) (fOp2 dIx fa fb) :=
  PE.imp (pe_ix (ix_any hF hu) ha hb hs) fun σ H Q h => tW.bind h fun g ρ x v e m w r o =>
    ⟨g, ρ, e, rfl, m, w, o.bind fun y g1 u m1 x1 r1 o1 => ⟨g1, x, y, x1.fx.trans e, rfl, m1, r.mono x1, r1, o1.calm (cm_ix _ _ _)⟩⟩

/-! slices -/
abbrev SemO := Env → Mem → R (Option Int)
def SO (X : Cx) (F : Fx) (W : WX) (e : Option Expr) (f : SemO) : Prop := PO X e (tW (fun _ (a b : Option Int) => b = a) F W f)
def oNone : SemO := fun _ μ => .ok none μ
def oSome (f : Sem) : SemO := fun ρ μ => (f ρ μ).bind fun d μ => match d with
  | .int i => .ok (some i) μ
  | _ => .bad
theorem PO.imp {e : Option Expr} {t t' : TO} (h : PO X e t) (k : ∀ σ H Q, t' σ H Q → t σ H Q) : PO X e t' := ⟨fun pins s σ H Q I w => h.run pins s σ H Q I (k σ H Q w)⟩
theorem so_none : SO X F W none oNone := PO.imp po_none fun σ H Q ⟨g, ρ, _, e2, m, _, o⟩ => by subst e2; exact Out.here (a := none) o m rfl
theorem so_some (h : SE X F W e fa) : SO X F W (some e) (oSome fa) := PO.imp (po_some h) fun σ H Q h => tW.bind h fun g ρ d v e m w r o => by
  cases d with
  | int i => exact ⟨i, r, Out.here (a := some i) o m rfl⟩
  | _ => exact o.elim
def cutD (ds : List D) (lo hi : Option Int) : List D := (ds.drop (HT.sIx ds.length 0 lo)).take (HT.sIx ds.length ds.length hi - HT.sIx ds.length 0 lo)
theorem cut_rep {g : G} {ds : List D} {xs : List V} (r : RepL g ds xs) (lo hi : Option Int) : RepL g (cutD ds lo hi) (cutV xs lo hi) := by
  unfold cutD cutV
  rw [← r.length]
  exact (r.drop _).take _
def dSl (x : D) (lo hi : Option Int) (μ : Mem) : R D := match x with
  | .str z => if z.length ≤ sizeLine then .ok (.str (cutS z lo hi)) μ else .bad
  | .tup ds => if HT.sIx ds.length 0 lo = 0 ∧ HT.sIx ds.length ds.length hi = ds.length then .bad else .ok (.tup (cutD ds lo hi)) μ
  | x => match lstD μ x with
    | some ds => .ok (.lst (cutD ds lo hi)) μ
    | none => .bad
def fSl (a : Sem) (lo hi : SemO) : Sem := fun ρ μ => (a ρ μ).bind fun x μ => (lo ρ μ).bind fun l μ => (hi ρ μ).bind fun h μ => dSl x l h μ
def rSlD (F : Fx) : V → Option Int → Option Int → Hp → VK → Prop := fun x lo hi H Q => ∃ (g : G) (a : D), g.fx = F ∧ g.H = H ∧ MemOk g ∧ Rep g a x ∧ Out Rep (fun _ _ _ => False) g (dSl a lo hi g.μ) Q
theorem cm_sl (x : D) (lo hi : Option Int) (μ : Mem) : (dSl x lo hi μ).calm := by
  unfold dSl
  split
  · split <;> trivial
  · split <;> trivial
  · split <;> trivial
theorem sl_any (hF : F.K = X.K) : SlR X (rSlD F) := by
  intro pins s σ H x v vl vu lo hi sl Q I rx hs pl pu h
  obtain ⟨g, a, e, rfl, m, ra, o⟩ := h
  have eK := fxK e hF
  unfold dSl at o
  split at o
  · cases ra
    split at o
    · exact sl_str pins s σ g.H _ v vl vu lo hi sl Q I rx hs pl pu ⟨_, rfl, by assumption, o.here m rfl⟩
    · exact o.elim
  · rename_i ds
    obtain ⟨p, xs, rfl, q1, t⟩ := ra
    split at o
    · exact o.elim
    · rename_i hc
      exact sl_tup pins s σ g.H _ v vl vu lo hi sl Q I rx hs pl pu ⟨p, xs, rfl, eK ▸ q1.sq, by rw [← t.length]; exact hc, fun w hw => out_tup o m (cut_rep t lo hi) w hw⟩
  · split at o
    · rename_i ds hl
      obtain ⟨p, xs, rfl, q1, t⟩ := lstD_rep m ra hl
      exact sl_list pins s σ g.H _ v vl vu lo hi sl Q I rx hs pl pu ⟨p, xs, rfl, eK ▸ q1, fun w hw => out_lst o m (cut_rep t lo hi) w hw⟩
    · exact o.elim
theorem se_sl {lo hi : Option Expr} {fl fh : SemO} {p2 : Pos} (hF : F.K = X.K) (ha : SE X F W a fa) (hl : SO X F W lo fl) (hh : SO X F W hi fh) : SE X F W (.Subscript a (.Slice lo hi none p2) pos) (fSl fa fl fh) :=
  PE.imp (pe_slice (sl_any hF) ha hl hh) fun σ H Q h => tW.bind h fun g ρ x v e m w r o =>
    ⟨g, ρ, e, rfl, m, w, o.bind fun l g1 l' m1 x1 r1 o1 => ⟨g1, ρ, x1.fx.trans e, rfl, m1, w.mono x1, o1.bind fun u g2 u' m2 x2 r2 o2 => by
      cases r1; cases r2
      exact ⟨g2, x, x2.fx.trans (x1.fx.trans e), rfl, m2, (r.mono x1).mono x2, o2.calm (cm_sl _ _ _ _)⟩⟩⟩
/-- a slice of a list, as a new list of one's own -/
def fSlL (a : Sem) (lo hi : SemO) : SemA := fun ρ μ => (a ρ μ).bind fun x μ => (lo ρ μ).bind fun l μ => (hi ρ μ).bind fun h μ => match lstD μ x with
  | some ds => .ok (cutD ds l h) μ
  | none => .bad
theorem sf_sl {lo hi : Option Expr} {fl fh : SemO} {p2 : Pos} (hF : F.K = X.K) (ha : SE X F W a fa) (hl : SO X F W lo fl) (hh : SO X F W hi fh) : SF X F W (.Subscript a (.Slice lo hi none p2) pos) (fSlL fa fl fh) :=
  PE.imp (pe_slice sl_list ha hl hh) fun σ H Q ⟨g, ρ, e1, e2, m, v, o⟩ => by
    refine ⟨g, ρ, e1, e2, m, v, Out.of_bind o fun x g1 xv m1 x1 r1 o1 => ?_⟩
    refine ⟨g1, ρ, x1.fx.trans e1, rfl, m1, v.mono x1, Out.of_bind o1 fun l g2 l' m2 x2 r2 o2 => ?_⟩
    refine ⟨g2, ρ, x2.fx.trans (x1.fx.trans e1), rfl, m2, (v.mono x1).mono x2, Out.of_bind o2 fun u g3 u' m3 x3 r3 o3 => ?_⟩
    cases r2; cases r3
    have eK := fxK (x3.fx.trans (x2.fx.trans (x1.fx.trans e1))) hF
    have rx := ((r1.mono x2).mono x3)
    cases hl : lstD g3.μ x with
    | none => simp only [hl] at o3; exact o3.elim
    | some ds =>
      simp only [hl] at o3
      obtain ⟨p, xs, rfl, q1, t⟩ := lstD_rep m3 rx hl
      exact ⟨p, xs, rfl, eK ▸ q1, fun w hw => Out.here (a := cutD ds l u) o3 m3 (cut_rep t l u) w hw⟩
/-- xs + ys, xs * k as new lists of one's own -/
def fCat (a b : Sem) : SemA := fun ρ μ => (a ρ μ).bind fun x μ => (b ρ μ).bind fun y μ => match lstW μ x, lstW μ y with
  | some ds, some es => if ds.length + es.length ≤ sizeLine then .ok (ds ++ es) μ else .bad
  | _, _ => .bad
def fRep (a b : Sem) : SemA := fun ρ μ => (a ρ μ).bind fun x μ => (b ρ μ).bind fun y μ => match lstW μ x, y with
  | some ds, .int k => if -(2 ^ 63) ≤ k ∧ k < 2 ^ 63 ∧ ds.length * k.toNat ≤ sizeLine then .ok (List.replicate k.toNat ds).flatten μ else .bad
  | _, _ => .bad
theorem sf_cat (ha : SE X F W a fa) (hb : SE X F W b fb) : SF X F W (.BinOp a .Add b pos) (fCat fa fb) :=
  PE.imp (pe_op op_cat ha hb) fun σ H Q ⟨g, ρ, e1, e2, m, v, o⟩ => by
    refine ⟨g, ρ, e1, e2, m, v, Out.of_bind o fun x g1 xv m1 x1 r1 o1 => ?_⟩
    refine ⟨g1, ρ, x1.fx.trans e1, rfl, m1, v.mono x1, Out.of_bind o1 fun y g2 yv m2 x2 r2 o2 => ?_⟩
    split at o2
    · rename_i ds es h1 h2
      split at o2
      · obtain ⟨p, xs, rfl, q1, t1⟩ := lstW_rep m2 (r1.mono x2) h1
        obtain ⟨p2, ys, rfl, q2, t2⟩ := lstW_rep m2 r2 h2
        exact ⟨p, p2, xs, ys, rfl, rfl, q1, q2, by rw [← t1.length, ← t2.length]; assumption, fun w hw => Out.here (a := ds ++ es) o2 m2 (t1.app t2) w hw⟩
      · exact o2.elim
    · exact o2.elim
theorem sf_rep (ha : SE X F W a fa) (hb : SE X F W b fb) : SF X F W (.BinOp a .Mult b pos) (fRep fa fb) :=
  PE.imp (pe_op op_rep ha hb) fun σ H Q ⟨g, ρ, e1, e2, m, v, o⟩ => by
    refine ⟨g, ρ, e1, e2, m, v, Out.of_bind o fun x g1 xv m1 x1 r1 o1 => ?_⟩
    refine ⟨g1, ρ, x1.fx.trans e1, rfl, m1, v.mono x1, Out.of_bind o1 fun y g2 yv m2 x2 r2 o2 => ?_⟩
    split at o2
    · rename_i ds k h1
      split at o2
      · rename_i hc
        obtain ⟨p, xs, rfl, q1, t1⟩ := lstW_rep m2 (r1.mono x2) h1
        cases r2
        exact ⟨p, k, xs, rfl, rfl, q1, hc.1, hc.2.1, by rw [← t1.length]; exact hc.2.2, fun w hw => Out.here (a := (List.replicate k.toNat ds).flatten) o2 m2 (flat_rep t1 _) w hw⟩
      · exact o2.elim
    · exact o2.elim
end

/-! ### built-in functions, types, methods -/
def fBi (op : DFn) (es : SemA) : Sem := fun ρ μ => (es ρ μ).bind op
abbrev DFl := List D → Mem → R (List D)
def fBl (op : DFl) (es : SemA) : SemA := fun ρ μ => (es ρ μ).bind op
def rDF (F : Fx) (op : DFl) : List V → Hp → VK → Prop := fun xs H Q => ∃ (g : G) (ds : List D), g.fx = F ∧ g.H = H ∧ MemOk g ∧ RepL g ds xs ∧ Out RepL (fun _ _ _ => False) g (op ds g.μ) (fun xs H' => ∀ p, H' p = none → Q (.ref p) (upd H' p (.lst xs)))
def fMt (op : D → List D → Mem → R D) (o : Sem) (es : SemA) : Sem := fun ρ μ => (o ρ μ).bind fun x μ => (es ρ μ).bind fun ds μ => op x ds μ
def fMl (op : D → List D → Mem → R (List D)) (o : Sem) (es : SemA) : SemA := fun ρ μ => (o ρ μ).bind fun x μ => (es ρ μ).bind fun ds μ => op x ds μ
def rDMF (F : Fx) (op : D → List D → Mem → R (List D)) : V → List V → Hp → VK → Prop := fun x xs H Q => ∃ (g : G) (a : D) (ds : List D), g.fx = F ∧ g.H = H ∧ MemOk g ∧ Rep g a x ∧ RepL g ds xs ∧ Out RepL (fun _ _ _ => False) g (op a ds g.μ) (fun xs H' => ∀ p, H' p = none → Q (.ref p) (upd H' p (.lst xs)))
section
variable {X : Cx} {F : Fx} {W : WX} {a b e o : Expr} {es : List Expr} {fa fb fo : Sem} {f : SemA} {pos p apos cpos : Pos} {x : Str} {id T : String} {op : DFn} {opl : DFl} {name : Str}
theorem se_bi (hc : CallR X (.builtin id) (rDA F op)) (cm : ∀ ds μ, (op ds μ).calm) (hm : X.mg x = none) (ha : SA X F W (e :: es) f) (hg : Gl X x := by rfl) (hv : bootBuiltins x = some (.builtin id) := by decide +kernel) (hn : x ≠ "__name__" := by decide) (hd : (x == ("__debug__" : Str)) = false := by decide)
    (he : starEach (e :: es) X.env = (false, eval e X.env) :: starEach es X.env := by rfl) (hpl : (backTo pos (starEach es X.env)).any (·.1) = false := by rfl) : SE X F W (.Call (.Name x p) (e :: es) [] pos) (fBi op f) :=
  PE.imp (pe_callB hc hg hm hv ha hn hd he hpl) fun σ H Q h => tW.bind h fun g ρ ds vs e m w r o => ⟨g, ds, e, rfl, m, r, o.calm (cm _ _)⟩
theorem se_bty (hc : CallR X (.type T) (rDA F op)) (cm : ∀ ds μ, (op ds μ).calm) (hm : X.mg x = none) (ha : SA X F W (e :: es) f) (hg : Gl X x := by rfl) (hv : bootBuiltins x = some (.type T) := by decide +kernel) (hn : x ≠ "__name__" := by decide) (hd : (x == ("__debug__" : Str)) = false := by decide)
    (he : starEach (e :: es) X.env = (false, eval e X.env) :: starEach es X.env := by rfl) (hpl : (backTo pos (starEach es X.env)).any (·.1) = false := by rfl) : SE X F W (.Call (.Name x p) (e :: es) [] pos) (fBi op f) :=
  PE.imp (pe_callTy hc hg hm hv ha hn hd he hpl) fun σ H Q h => tW.bind h fun g ρ ds vs e m w r o => ⟨g, ds, e, rfl, m, r, o.calm (cm _ _)⟩
theorem sf_bi (hc : CallR X (.builtin id) (rDF F opl)) (cm : ∀ ds μ, (opl ds μ).calm) (hm : X.mg x = none) (ha : SA X F W (e :: es) f) (hg : Gl X x := by rfl) (hv : bootBuiltins x = some (.builtin id) := by decide +kernel) (hn : x ≠ "__name__" := by decide) (hd : (x == ("__debug__" : Str)) = false := by decide)
    (he : starEach (e :: es) X.env = (false, eval e X.env) :: starEach es X.env := by rfl) (hpl : (backTo pos (starEach es X.env)).any (·.1) = false := by rfl) : SF X F W (.Call (.Name x p) (e :: es) [] pos) (fBl opl f) :=
  PE.imp (pe_callB hc hg hm hv ha hn hd he hpl) fun σ H Q ⟨g, ρ, e1, e2, m, v, o⟩ => ⟨g, ρ, e1, e2, m, v, Out.of_bind o fun ds g1 vs m1 x1 r1 o1 => ⟨g1, ds, x1.fx.trans e1, rfl, m1, r1, o1.calm (cm _ _)⟩⟩
theorem sf_bty (hc : CallR X (.type T) (rDF F opl)) (cm : ∀ ds μ, (opl ds μ).calm) (hm : X.mg x = none) (ha : SA X F W (e :: es) f) (hg : Gl X x := by rfl) (hv : bootBuiltins x = some (.type T) := by decide +kernel) (hn : x ≠ "__name__" := by decide) (hd : (x == ("__debug__" : Str)) = false := by decide)
    (he : starEach (e :: es) X.env = (false, eval e X.env) :: starEach es X.env := by rfl) (hpl : (backTo pos (starEach es X.env)).any (·.1) = false := by rfl) : SF X F W (.Call (.Name x p) (e :: es) [] pos) (fBl opl f) :=
  PE.imp (pe_callTy hc hg hm hv ha hn hd he hpl) fun σ H Q ⟨g, ρ, e1, e2, m, v, o⟩ => ⟨g, ρ, e1, e2, m, v, Out.of_bind o fun ds g1 vs m1 x1 r1 o1 => ⟨g1, ds, x1.fx.trans e1, rfl, m1, r1, o1.calm (cm _ _)⟩⟩
/-- of which built-in type a datum is, for a method -/
def tyD (T : String) (d : D) (μ : Mem) : Bool := match d with
  | .str _ => T == "str"
  | .int _ => T == "int"
  | .dic _ _ => T == "dict"
  | d => (T == "list" && (lstD μ d).isSome) || (T == "dict" && (dicD μ d).isSome)
theorem tyD_ok {g : G} (hF : F.K = X.K) (e : g.fx = F) (m : MemOk g) {d : D} {v : V} (r : Rep g d v) (h : tyD T d g.μ = true) (hw : T = "dict" → ∀ p xs, v = .ref p → Rd g.H p (.dK xs) → g.H p = some (.dK xs)) : tyV X.K T v g.H := by
  have eK := fxK e hF
  have gen : ∀ d : D, Rep g d v → ((T == "list" && (lstD g.μ d).isSome) || (T == "dict" && (dicD g.μ d).isSome)) = true → tyV X.K T v g.H := by
    intro d r h
    simp only [Bool.or_eq_true, Bool.and_eq_true, beq_iff_eq] at h
    rcases h with ⟨h1, h2⟩ | ⟨h1, h2⟩
    · obtain ⟨ds, hd⟩ := Option.isSome_iff_exists.mp h2
      obtain ⟨p, xs, rfl, q1, t⟩ := lstD_rep m r hd
      exact .inl ⟨h1, xs, eK ▸ q1⟩
    · obtain ⟨ds, hd⟩ := Option.isSome_iff_exists.mp h2
      obtain ⟨p, xs, rfl, q1, l, t⟩ := dicD_rep m (ks := ds.1) (ds := ds.2) r hd
      exact .inr (.inr (.inl ⟨h1, .inl ⟨_, hw h1 p _ rfl q1⟩⟩))
  cases d with
  | str x => cases r; exact beq_iff_eq.mp h
  | int i => cases r; exact beq_iff_eq.mp h
  | dic ks ds => exact gen _ r (by
      have : T == "dict" := h
      simp [dicD, this])
  | _ => exact gen _ r h
/-- a method of texts and lists -/
def tyK (T : String) (op : D → List D → Mem → R D) : D → List D → Mem → R D := fun x ds μ => op x ds μ
def fMtT (T : String) (op : D → List D → Mem → R D) (o : Sem) (es : SemA) : Sem := fun ρ μ => (o ρ μ).bind fun x μ => if tyD T x μ = true then (es ρ μ).bind fun ds μ => op x ds μ else .bad
def fMlT (T : String) (op : D → List D → Mem → R (List D)) (o : Sem) (es : SemA) : SemA := fun ρ μ => (o ρ μ).bind fun x μ => if tyD T x μ = true then (es ρ μ).bind fun ds μ => op x ds μ else .bad
theorem rd_dk {g : G} {p : Addr} {xs : List (Key × V)} (hT : T ≠ "dict") : T = "dict" → ∀ p xs, V.ref p = .ref p → Rd g.H p (.dK xs) → g.H p = some (.dK xs) := fun z => (hT z).elim
theorem se_mt {opm : D → List D → Mem → R D} (hF : F.K = X.K) (hT : T ≠ "dict" := by decide) (pa : PlainAttrs T) (slot : Slot T name id) (hty : typeOf (.builtin id) = pure (.type "method_descriptor")) (hm : MtR X id (rDM F opm)) (cm : ∀ x ds μ, (opm x ds μ).calm) (ho : SE X F W o fo) (ha : SA X F W (e :: es) f) (hbase : attributeBase o name X.env (eval o X.env) = eval o X.env := by rfl)
    (hfew : ((backTo cpos (starEach (e :: es) X.env)).all (fun x => !x.1) && (backToKw cpos (keywordEach [] X.env)).all (fun x => x.1.isSome)
      && decide ((e :: es).length + ([] : List Keyword).length + (if ([] : List Keyword).isEmpty then 0 else 1) < 30)) = true := by rfl)
    (hline : (apos.endLine == cpos.line) = true := by rfl) (he : starEach (e :: es) X.env = (false, eval e X.env) :: starEach es X.env := by rfl) (hpl : (backTo cpos (starEach es X.env)).any (·.1) = false := by rfl) : SE X F W (.Call (.Attribute o name apos) (e :: es) [] cpos) (fMtT T opm fo f) :=
  PE.imp (pe_bm pa slot hty hm ho ha hbase hfew hline he hpl) fun σ H Q h => tW.bind h fun g ρ x v e m w r o => by
    cases ht : tyD T x g.μ with
    | false => simp only [ht] at o; exact o.elim
    | true =>
      simp only [ht, if_true] at o
      exact ⟨tyD_ok hF e m r ht fun z => (hT z).elim, g, ρ, e, rfl, m, w, o.bind fun ds g1 vs m1 x1 r1 o1 => ⟨g1, x, ds, x1.fx.trans e, rfl, m1, r.mono x1, r1, o1.calm (cm _ _ _)⟩⟩
theorem se_mt0 {opm : D → List D → Mem → R D} (hF : F.K = X.K) (hT : T ≠ "dict" := by decide) (pa : PlainAttrs T) (slot : Slot T name id) (hty : typeOf (.builtin id) = pure (.type "method_descriptor")) (hm : MtR X id (rDM F opm)) (cm : ∀ x ds μ, (opm x ds μ).calm) (ho : SE X F W o fo) (hbase : attributeBase o name X.env (eval o X.env) = eval o X.env := by rfl)
    (hline : (apos.endLine == cpos.line) = true := by rfl) : SE X F W (.Call (.Attribute o name apos) [] [] cpos) (fMtT T opm fo fNil) :=
  PE.imp (pe_bm0 pa slot hty hm ho hbase hline) fun σ H Q h => tW.bind h fun g ρ x v e m w r o => by
    cases ht : tyD T x g.μ with
    | false => simp only [ht] at o; exact o.elim
    | true =>
      simp only [ht, if_true] at o
      exact ⟨tyD_ok hF e m r ht fun z => (hT z).elim, g, x, [], e, rfl, m, r, RepL.nil, Out.calm (r := opm x [] g.μ) o (cm _ _ _)⟩
theorem sf_mt {opm : D → List D → Mem → R (List D)} (hF : F.K = X.K) (hT : T ≠ "dict" := by decide) (pa : PlainAttrs T) (slot : Slot T name id) (hty : typeOf (.builtin id) = pure (.type "method_descriptor")) (hm : MtR X id (rDMF F opm)) (cm : ∀ x ds μ, (opm x ds μ).calm) (ho : SE X F W o fo) (ha : SA X F W (e :: es) f) (hbase : attributeBase o name X.env (eval o X.env) = eval o X.env := by rfl)
    (hfew : ((backTo cpos (starEach (e :: es) X.env)).all (fun x => !x.1) && (backToKw cpos (keywordEach [] X.env)).all (fun x => x.1.isSome)
      && decide ((e :: es).length + ([] : List Keyword).length + (if ([] : List Keyword).isEmpty then 0 else 1) < 30)) = true := by rfl)
    (hline : (apos.endLine == cpos.line) = true := by rfl) (he : starEach (e :: es) X.env = (false, eval e X.env) :: starEach es X.env := by rfl) (hpl : (backTo cpos (starEach es X.env)).any (·.1) = false := by rfl) : SF X F W (.Call (.Attribute o name apos) (e :: es) [] cpos) (fMlT T opm fo f) :=
  PE.imp (pe_bm pa slot hty hm ho ha hbase hfew hline he hpl) fun σ H Q ⟨g, ρ, e1, e2, m, v, o⟩ => ⟨g, ρ, e1, e2, m, v, Out.of_bind o fun x g1 xv m1 x1 r1 o1 => by
    cases ht : tyD T x g1.μ with
    | false => simp only [ht] at o1; exact o1.elim
    | true =>
      simp only [ht, if_true] at o1
      exact ⟨tyD_ok hF (x1.fx.trans e1) m1 r1 ht fun z => (hT z).elim, g1, ρ, x1.fx.trans e1, rfl, m1, v.mono x1, Out.of_bind o1 fun ds g2 vs m2 x2 r2 o2 => ⟨g2, x, ds, x2.fx.trans (x1.fx.trans e1), rfl, m2, r1.mono x2, r2, o2.calm (cm _ _ _)⟩⟩⟩
end
end Z

namespace Z
open PySem PySem.Spec PyProof.Rows L2

/-! ### built-in functions -/
def intD : D → Option Int
  | .int i => some i
  | _ => none
def intsD : List D → Option (List Int)
  | [] => some []
  | .int i :: ds => (intsD ds).map (i :: ·)
  | _ :: _ => none
def strsD : List D → Option (List Str)
  | [] => some []
  | .str i :: ds => (strsD ds).map (i :: ·)
  | _ :: _ => none
theorem intsD_rep {g : G} : ∀ {ds : List D} {xs : List V} {ns : List Int}, RepL g ds xs → intsD ds = some ns → xs = ns.map V.int
  | [], _, _, r, h => by cases r; cases h; rfl
  | d :: ds, _, ns, r, h => by
    obtain ⟨v, vs, rfl, r1, r2⟩ := r
    cases d with
    | int i =>
      simp only [intsD] at h
      cases e : intsD ds with
      | none => rw [e] at h; cases h
      | some ms =>
        rw [e] at h
        cases h
        cases r1
        rw [intsD_rep r2 e]; rfl
    | _ => simp [intsD] at h
theorem strsD_rep {g : G} : ∀ {ds : List D} {xs : List V} {ns : List Str}, RepL g ds xs → strsD ds = some ns → xs = ns.map V.str
  | [], _, _, r, h => by cases r; cases h; rfl
  | d :: ds, _, ns, r, h => by
    obtain ⟨v, vs, rfl, r1, r2⟩ := r
    cases d with
    | str i =>
      simp only [strsD] at h
      cases e : strsD ds with
      | none => rw [e] at h; cases h
      | some ms =>
        rw [e] at h
        cases h
        cases r1
        rw [strsD_rep r2 e]; rfl
    | _ => simp [strsD] at h
def dLen1 (x : D) (μ : Mem) : Option D := match x with
  | .str z => if z.length ≤ sizeLine then some (.int z.length) else none
  | .tup ds => some (.int ds.length)
  | x => match lstD μ x with
    | some ds => some (.int ds.length)
    | none => match dicD μ x with
      | some (ks, _) => some (.int ks.length)
      | none => none
def dLen : DFn := fun ds μ => match ds with
  | [x] => R.ofP μ (dLen1 x μ)
  | _ => .bad
def dAbs : DFn := fun ds μ => match ds with
  | [.int i] => .ok (.int (if i < 0 then -i else i)) μ
  | _ => .bad
def dInt : DFn := fun ds μ => match ds with
  | [.int i] => .ok (.int i) μ
  | [.bl b] => .ok (.int (if b then 1 else 0)) μ
  | [.str s] => (match PySem.intText? s with
    | some n => if s.length ≤ 640 then .ok (.int n) μ else .bad
    | none => .bad)
  | _ => .bad
def dStr : DFn := fun ds μ => match ds with
  | [.int i] => if i.natAbs.log2 < 1920 then .ok (.str (toString i)) μ else .bad
  | [.str s] => .ok (.str s) μ
  | _ => .bad
def dMax2 : DFn := fun ds μ => match ds with
  | [.int i, .int j] => .ok (.int (max i j)) μ
  | _ => .bad
def dMin2 : DFn := fun ds μ => match ds with
  | [.int i, .int j] => .ok (.int (min i j)) μ
  | _ => .bad
def dSum : DFn := fun ds μ => match ds with
  | [x] => (match (lstD μ x).bind intsD with
    | some ns => .ok (.int ns.sum) μ
    | none => .bad)
  | _ => .bad
def dGcd : DFn := fun ds μ => match ds with
  | [.int i, .int j] => .ok (.int ((Nat.gcd i.natAbs j.natAbs : Nat) : Int)) μ
  | _ => .bad
/-- the greatest, the least of a list of ints -/
def maxI : List Int → Option Int
  | [] => none
  | n :: ns => some (ns.foldl max n)
def minI : List Int → Option Int
  | [] => none
  | n :: ns => some (ns.foldl min n)
def dMax1 : DFn := fun ds μ => match ds with
  | [x] => R.ofP μ (((lstD μ x).bind intsD).bind fun ns => (maxI ns).map D.int)
  | _ => .bad
def dMin1 : DFn := fun ds μ => match ds with
  | [x] => R.ofP μ (((lstD μ x).bind intsD).bind fun ns => (minI ns).map D.int)
  | _ => .bad
def dTuple : DFn := fun ds μ => match ds with
  | [.tup xs] => .ok (.tup xs) μ
  | [x] => (match lstD μ x with
    | some xs => .ok (.tup xs) μ
    | none => .bad)
  | _ => .bad
/-- list(x), its items -/
def dList : DFl := fun ds μ => match ds with
  | [.tup xs] => .ok xs μ
  | [x] => (match lstD μ x with
    | some xs => .ok xs μ
    | none => .bad)
  | _ => .bad
theorem cm_len (ds : List D) (μ : Mem) : (dLen ds μ).calm := by unfold dLen; split; exact R.calm_ofP _ _; trivial
theorem cm_abs (ds : List D) (μ : Mem) : (dAbs ds μ).calm := by unfold dAbs; split <;> trivial
theorem cm_int (ds : List D) (μ : Mem) : (dInt ds μ).calm := by
  unfold dInt
  split
  · trivial
  · trivial
  · split
    · split <;> trivial
    · trivial
  · trivial
theorem cm_str (ds : List D) (μ : Mem) : (dStr ds μ).calm := by
  unfold dStr
  split
  · split <;> trivial
  · trivial
  · trivial
theorem cm_max2 (ds : List D) (μ : Mem) : (dMax2 ds μ).calm := by unfold dMax2; split <;> trivial
theorem cm_min2 (ds : List D) (μ : Mem) : (dMin2 ds μ).calm := by unfold dMin2; split <;> trivial
theorem cm_sum (ds : List D) (μ : Mem) : (dSum ds μ).calm := by
  unfold dSum
  split
  · split <;> trivial
  · trivial
theorem cm_gcd (ds : List D) (μ : Mem) : (dGcd ds μ).calm := by unfold dGcd; split <;> trivial
theorem cm_max1 (ds : List D) (μ : Mem) : (dMax1 ds μ).calm := by unfold dMax1; split; exact R.calm_ofP _ _; trivial
theorem cm_min1 (ds : List D) (μ : Mem) : (dMin1 ds μ).calm := by unfold dMin1; split; exact R.calm_ofP _ _; trivial
theorem cm_tuple (ds : List D) (μ : Mem) : (dTuple ds μ).calm := by
  unfold dTuple
  split
  · trivial
  · split <;> trivial
  · trivial
theorem cm_list (ds : List D) (μ : Mem) : (dList ds μ).calm := by
  unfold dList
  split
  · trivial
  · split <;> trivial
  · trivial
theorem one_rep {g : G} {d : D} {xs : List V} (r : RepL g [d] xs) : ∃ v, xs = [v] ∧ Rep g d v := by
  obtain ⟨v, vs, rfl, r1, r2⟩ := r
  cases r2
  exact ⟨v, rfl, r1⟩
theorem two_rep {g : G} {d e : D} {xs : List V} (r : RepL g [d, e] xs) : ∃ v w, xs = [v, w] ∧ Rep g d v ∧ Rep g e w := by
  obtain ⟨v, vs, rfl, r1, r2⟩ := r
  obtain ⟨w, rfl, r3⟩ := one_rep r2
  exact ⟨v, w, rfl, r1, r3⟩
theorem foldl_max : ∀ (ns : List Int) (n : Int), (ns.foldl max n ∈ n :: ns) ∧ ∀ y ∈ n :: ns, y ≤ ns.foldl max n
  | [], n => ⟨by simp, by simp⟩
  | m :: ns, n => by
    obtain ⟨h1, h2⟩ := foldl_max ns (max n m)
    refine ⟨?_, fun y hy => ?_⟩
    · show ns.foldl max (max n m) ∈ _
      rcases List.mem_cons.mp h1 with e | e
      · rw [e]
        rcases Int.le_total n m with q | q
        · rw [Int.max_eq_right q]; simp
        · rw [Int.max_eq_left q]; simp
      · simp [e]
    · show y ≤ ns.foldl max (max n m)
      have h3 := h2 (max n m) List.mem_cons_self
      rcases List.mem_cons.mp hy with e | e
      · subst e; omega
      · rcases List.mem_cons.mp e with e | e
        · subst e; omega
        · exact h2 y (List.mem_cons_of_mem _ e)
theorem foldl_min : ∀ (ns : List Int) (n : Int), (ns.foldl min n ∈ n :: ns) ∧ ∀ y ∈ n :: ns, ns.foldl min n ≤ y
  | [], n => ⟨by simp, by simp⟩
  | m :: ns, n => by
    obtain ⟨h1, h2⟩ := foldl_min ns (min n m)
    refine ⟨?_, fun y hy => ?_⟩
    · show ns.foldl min (min n m) ∈ _
      rcases List.mem_cons.mp h1 with e | e
      · rw [e]
        rcases Int.le_total n m with q | q
        · rw [Int.min_eq_left q]; simp
        · rw [Int.min_eq_right q]; simp
      · simp [e]
    · show ns.foldl min (min n m) ≤ y
      have h3 := h2 (min n m) List.mem_cons_self
      rcases List.mem_cons.mp hy with e | e
      · subst e; omega
      · rcases List.mem_cons.mp e with e | e
        · subst e; omega
        · exact h2 y (List.mem_cons_of_mem _ e)
section
variable {X : Cx} {F : Fx}
theorem call_len_dic : CallR X (.builtin "len") (fun xs H Q => ∃ p kvs, xs = [.ref p] ∧ Rd H p (.dK kvs) ∧ Q (.int kvs.length) H) := by
  intro pins s σ H xs us Q I r h
  obtain ⟨p, kvs, rfl, hd, q⟩ := h
  have e := r.ref1
  subst e
  exact d_len I hd fun t s' I' => ⟨.int kvs.length, H, I', ⟨_, rfl⟩, q⟩
theorem cd_len (hF : F.K = X.K) : CallR X (.builtin "len") (rDA F dLen) := by
  intro pins s σ H xs us Q I r h
  obtain ⟨g, ds, e, rfl, m, rr, o⟩ := h
  have eK := fxK e hF
  match ds, rr, o with
  | [], _, o => exact o.elim
  | _ :: _ :: _, _, o => exact o.elim
  | [x], rr, o =>
    obtain ⟨v, rfl, rx⟩ := one_rep rr
    obtain ⟨d, ed, o⟩ := Out.ofP (o := dLen1 x g.μ) o
    unfold dLen1 at ed
    split at ed
    · split at ed
      · cases ed; cases rx
        exact call_len_str pins s σ g.H _ us Q I r ⟨_, rfl, by assumption, o.here m rfl⟩
      · cases ed
    · cases ed
      obtain ⟨p, xs, rfl, q, t⟩ := rx
      exact call_len_seq pins s σ g.H _ us Q I r ⟨p, xs, rfl, .inr (eK ▸ q.sq), o.here m (by rw [t.length]; rfl)⟩
    · split at ed
      · rename_i ds hl
        cases ed
        obtain ⟨p, xs, rfl, q, t⟩ := lstD_rep m rx hl
        exact call_len_seq pins s σ g.H _ us Q I r ⟨p, xs, rfl, .inl (eK ▸ q), o.here m (by rw [t.length]; rfl)⟩
      · split at ed
        · rename_i ks ds hl
          cases ed
          obtain ⟨p, xs, rfl, q, l, t⟩ := dicD_rep m rx hl
          exact call_len_dic pins s σ g.H _ us Q I r ⟨p, _, rfl, q, o.here m (by rw [List.length_zip, ← l, Nat.min_self]; rfl)⟩
        · cases ed
theorem cd_abs : CallR X (.builtin "abs") (rDA F dAbs) := by
  intro pins s σ H xs us Q I r h
  obtain ⟨g, ds, e, rfl, m, rr, o⟩ := h
  unfold dAbs at o
  split at o
  · obtain ⟨v, rfl, rx⟩ := one_rep rr
    cases rx
    exact call_abs pins s σ g.H _ us Q I r ⟨_, rfl, o.here m rfl⟩
  · exact o.elim
theorem cd_int : CallR X (.type "int") (rDA F dInt) := by
  intro pins s σ H xs us Q I r h
  obtain ⟨g, ds, e, rfl, m, rr, o⟩ := h
  unfold dInt at o
  split at o
  · obtain ⟨v, rfl, rx⟩ := one_rep rr
    cases rx
    exact call_int1 pins s σ g.H _ us Q I r (.inl ⟨_, rfl, o.here m rfl⟩)
  · obtain ⟨v, rfl, rx⟩ := one_rep rr
    cases rx
    exact call_int1 pins s σ g.H _ us Q I r (.inr ⟨_, rfl, o.here m rfl⟩)
  · obtain ⟨v, rfl, rx⟩ := one_rep rr
    cases rx
    split at o
    · split at o
      · exact call_int_str pins s σ g.H _ us Q I r ⟨_, _, rfl, by assumption, by assumption, o.here m rfl⟩
      · exact o.elim
    · exact o.elim
  · exact o.elim
theorem cd_str : CallR X (.type "str") (rDA F dStr) := by
  intro pins s σ H xs us Q I r h
  obtain ⟨g, ds, e, rfl, m, rr, o⟩ := h
  unfold dStr at o
  split at o
  · obtain ⟨v, rfl, rx⟩ := one_rep rr
    cases rx
    split at o
    · exact call_str_int pins s σ g.H _ us Q I r ⟨_, rfl, by assumption, o.here m rfl⟩
    · exact o.elim
  · obtain ⟨v, rfl, rx⟩ := one_rep rr
    cases rx
    exact SkE.call_str_str pins s σ g.H _ us Q I r ⟨_, rfl, o.here m rfl⟩
  · exact o.elim
theorem cd_max2 (hc : X.calm = true) : CallR X (.builtin "max") (rDA F dMax2) := by
  intro pins s σ H xs us Q I r h
  obtain ⟨g, ds, e, rfl, m, rr, o⟩ := h
  unfold dMax2 at o
  split at o
  · rename_i i j
    obtain ⟨v, w, rfl, rx, ry⟩ := two_rep rr
    cases rx; cases ry
    refine call_max2 hc pins s σ g.H _ us Q I r ⟨_, _, rfl, o.here m ?_⟩
    show V.int _ = V.int _
    congr 1
    split <;> omega
  · exact o.elim
theorem cd_min2 (hc : X.calm = true) : CallR X (.builtin "min") (rDA F dMin2) := by
  intro pins s σ H xs us Q I r h
  obtain ⟨g, ds, e, rfl, m, rr, o⟩ := h
  unfold dMin2 at o
  split at o
  · rename_i i j
    obtain ⟨v, w, rfl, rx, ry⟩ := two_rep rr
    cases rx; cases ry
    refine call_min2 hc pins s σ g.H _ us Q I r ⟨_, _, rfl, o.here m ?_⟩
    show V.int _ = V.int _
    congr 1
    split <;> omega
  · exact o.elim
theorem bind_some {α β : Type} {o : Option α} {k : α → Option β} {b : β} (h : o.bind k = some b) : ∃ a, o = some a ∧ k a = some b := by
  cases o with
  | none => cases h
  | some a => exact ⟨a, rfl, h⟩
theorem cd_sum (hF : F.K = X.K) (hc : X.calm = true) : CallR X (.builtin "sum") (rDA F dSum) := by
  intro pins s σ H xs us Q I r h
  obtain ⟨g, ds, e, rfl, m, rr, o⟩ := h
  have eK := fxK e hF
  unfold dSum at o
  split at o
  · obtain ⟨v, rfl, rx⟩ := one_rep rr
    split at o
    · rename_i ns hb
      obtain ⟨es, h1, h2⟩ := bind_some hb
      obtain ⟨p, xs, rfl, q, t⟩ := lstD_rep m rx h1
      have := intsD_rep t h2
      subst this
      exact cr_sum hc pins s σ g.H _ us Q I r ⟨p, ns, rfl, eK ▸ q, o.here m rfl⟩
    · exact o.elim
  · exact o.elim
theorem cd_max1 (hF : F.K = X.K) (hc : X.calm = true) : CallR X (.builtin "max") (rDA F dMax1) := by
  intro pins s σ H xs us Q I r h
  obtain ⟨g, ds, e, rfl, m, rr, o⟩ := h
  have eK := fxK e hF
  unfold dMax1 at o
  split at o
  · obtain ⟨v, rfl, rx⟩ := one_rep rr
    obtain ⟨d, ed, o⟩ := Out.ofP o
    obtain ⟨ns, hb, ed⟩ := bind_some ed
    obtain ⟨es, h1, h2⟩ := bind_some hb
    obtain ⟨p, xs, rfl, q, t⟩ := lstD_rep m rx h1
    have := intsD_rep t h2
    subst this
    cases ns with
    | nil => cases ed
    | cons n ns =>
      cases ed
      obtain ⟨f1, f2⟩ := foldl_max ns n
      refine cr_max hc pins s σ g.H _ us Q I r ⟨p, n :: ns, rfl, eK ▸ q, by simp, fun k hk hle => ?_⟩
      have : k = ns.foldl max n := Int.le_antisymm (f2 k hk) (hle _ f1)
      subst this
      exact o.here m rfl
  · exact o.elim
theorem cd_min1 (hF : F.K = X.K) (hc : X.calm = true) : CallR X (.builtin "min") (rDA F dMin1) := by
  intro pins s σ H xs us Q I r h
  obtain ⟨g, ds, e, rfl, m, rr, o⟩ := h
  have eK := fxK e hF
  unfold dMin1 at o
  split at o
  · obtain ⟨v, rfl, rx⟩ := one_rep rr
    obtain ⟨d, ed, o⟩ := Out.ofP o
    obtain ⟨ns, hb, ed⟩ := bind_some ed
    obtain ⟨es, h1, h2⟩ := bind_some hb
    obtain ⟨p, xs, rfl, q, t⟩ := lstD_rep m rx h1
    have := intsD_rep t h2
    subst this
    cases ns with
    | nil => cases ed
    | cons n ns =>
      cases ed
      obtain ⟨f1, f2⟩ := foldl_min ns n
      refine cr_min hc pins s σ g.H _ us Q I r ⟨p, n :: ns, rfl, eK ▸ q, by simp, fun k hk hle => ?_⟩
      have : k = ns.foldl min n := Int.le_antisymm (hle _ f1) (f2 k hk)
      subst this
      exact o.here m rfl
  · exact o.elim
theorem cd_gcd : CallR X (.builtin "math.gcd") (rDA F dGcd) := by
  intro pins s σ H xs us Q I r h
  obtain ⟨g, ds, e, rfl, m, rr, o⟩ := h
  unfold dGcd at o
  split at o
  · obtain ⟨v, w, rfl, rx, ry⟩ := two_rep rr
    cases rx; cases ry
    exact cr_gcd pins s σ g.H _ us Q I r ⟨_, _, rfl, o.here m rfl⟩
  · exact o.elim
theorem cd_tuple (hF : F.K = X.K) : CallR X (.type "tuple") (rDA F dTuple) := by
  intro pins s σ H xs us Q I r h
  obtain ⟨g, ds, e, rfl, m, rr, o⟩ := h
  have eK := fxK e hF
  unfold dTuple at o
  split at o
  · obtain ⟨v, rfl, rx⟩ := one_rep rr
    have rx' := rx
    obtain ⟨p, xs, rfl, q, t⟩ := rx
    exact call_tuple_of pins s σ g.H _ us Q I r ⟨p, xs, rfl, .inr ⟨eK ▸ q.sq, o.here m rx'⟩⟩
  · obtain ⟨v, rfl, rx⟩ := one_rep rr
    split at o
    · rename_i ds hl
      obtain ⟨p, xs, rfl, q, t⟩ := lstD_rep m rx hl
      exact call_tuple_of pins s σ g.H _ us Q I r ⟨p, xs, rfl, .inl ⟨eK ▸ q, fun w hw => out_tup o m t w hw⟩⟩
    · exact o.elim
  · exact o.elim
theorem cf_list (hF : F.K = X.K) : CallR X (.type "list") (rDF F dList) := by
  intro pins s σ H xs us Q I r h
  obtain ⟨g, ds, e, rfl, m, rr, o⟩ := h
  have eK := fxK e hF
  unfold dList at o
  split at o
  · obtain ⟨v, rfl, rx⟩ := one_rep rr
    obtain ⟨p, xs, rfl, q, t⟩ := rx
    exact call_list_of pins s σ g.H _ us Q I r ⟨p, xs, rfl, .inr (eK ▸ q.sq), Out.here (a := _) o m t⟩
  · obtain ⟨v, rfl, rx⟩ := one_rep rr
    split at o
    · rename_i ds hl
      obtain ⟨p, xs, rfl, q, t⟩ := lstD_rep m rx hl
      exact call_list_of pins s σ g.H _ us Q I r ⟨p, xs, rfl, .inl (eK ▸ q), Out.here (a := _) o m t⟩
    · exact o.elim
  · exact o.elim
end

/-! ### methods of lists in cells -/
def cellL (μ : Mem) (x : D) : Option (Nat × List D) := match x with
  | .obj n => match μ[n]? with
    | some (.lst ds) => some (n, ds)
    | _ => none
  | _ => none
def putL (n : Nat) (ds : List D) (d : D) (μ : Mem) : R D := .ok d (μ.set n (.lst ds))
def dAppend (x : D) (as : List D) (μ : Mem) : R D := match cellL μ x, as with
  | some (n, ds), [d] => if ds.length < sizeLine then putL n (ds ++ [d]) .non μ else .bad
  | _, _ => .bad
def dInsert (x : D) (as : List D) (μ : Mem) : R D := match cellL μ x, as with
  | some (n, ds), [.int i, d] => if ds.length < sizeLine ∧ 0 ≤ i ∧ i < 2 ^ 63 then putL n (ds.take i.toNat ++ [d] ++ ds.drop i.toNat) .non μ else .bad
  | _, _ => .bad
def dPop (x : D) (as : List D) (μ : Mem) : R D := match cellL μ x, as with
  | some (n, ds), [] => (match ds[ds.length - 1]? with
    | some d => putL n ds.dropLast d μ
    | none => .bad)
  | _, _ => .bad
def dPopAt (x : D) (as : List D) (μ : Mem) : R D := match cellL μ x, as with
  | some (n, ds), [.int i] => (match ixN ds.length i with
    | some k => (match ds[k]? with
      | some d => putL n (ds.eraseIdx k) d μ
      | none => .bad)
    | none => .bad)
  | _, _ => .bad
def dExtend (x : D) (as : List D) (μ : Mem) : R D := match cellL μ x, as with
  | some (n, ds), [y] => (match lstW μ y with
    | some es => if ds.length + es.length ≤ sizeLine then putL n (ds ++ es) .non μ else .bad
    | none => .bad)
  | _, _ => .bad
theorem cellL_rep {g : G} (m : MemOk g) {x : D} {v : V} {n : Nat} {ds : List D} (r : Rep g x v) (h : cellL g.μ x = some (n, ds)) : ∃ a xs, v = .ref a ∧ g.α[n]? = some a ∧ g.μ[n]? = some (.lst ds) ∧ g.H a = some (.lst xs) ∧ RepL g ds xs := by
  cases x with
  | obj k =>
    obtain ⟨a, q, rfl⟩ := r
    unfold cellL at h
    simp only at h
    split at h
    · rename_i es hc
      cases h
      obtain ⟨xs, h1, t⟩ := m.cells _ a _ q hc
      exact ⟨a, xs, rfl, q, hc, h1, t⟩
    · cases h
  | _ => cases h
/-- a list in a cell is written anew -/
theorem out_put {g : G} {E : XK} {n : Nat} {a : Addr} {ds es : List D} {ys : List V} {d : D} {v : V} {Q : VK} (o : Out Rep E g (putL n es d g.μ) Q) (m : MemOk g) (hα : g.α[n]? = some a) (hμ : g.μ[n]? = some (.lst ds)) (r : RepL g es ys) (rd : Rep g d v) : Q v (upd g.H a (.lst ys)) :=
  o (g.wr n a (.lst ys) (.lst es)) v rfl (m.wr hα hμ rfl ⟨ys, upd_same, r.mono (Ext.wr m hα hμ rfl)⟩) (Ext.wr m hα hμ rfl) (rd.mono (Ext.wr m hα hμ rfl))
theorem cm_append (x : D) (as : List D) (μ : Mem) : (dAppend x as μ).calm := by
  unfold dAppend
  split
  · split <;> trivial
  · trivial
theorem cm_insert (x : D) (as : List D) (μ : Mem) : (dInsert x as μ).calm := by
  unfold dInsert
  split
  · split <;> trivial
  · trivial
theorem cm_pop (x : D) (as : List D) (μ : Mem) : (dPop x as μ).calm := by
  unfold dPop
  split
  · split <;> trivial
  · trivial
theorem cm_popAt (x : D) (as : List D) (μ : Mem) : (dPopAt x as μ).calm := by
  unfold dPopAt
  split
  · split
    · split <;> trivial
    · trivial
  · trivial
theorem cm_extend (x : D) (as : List D) (μ : Mem) : (dExtend x as μ).calm := by
  unfold dExtend
  split
  · split
    · split <;> trivial
    · trivial
  · trivial
theorem dropLast_rep {g : G} {ds : List D} {xs : List V} (r : RepL g ds xs) : RepL g ds.dropLast xs.dropLast := by
  rw [List.dropLast_eq_take, List.dropLast_eq_take, r.length]
  exact r.take _
section
variable {X : Cx} {F : Fx}
theorem md_append : MtR X "list.append" (rDM F dAppend) := by
  intro pins s σ H x xs v us Q I rx rxs h
  obtain ⟨g, a, ds, e, rfl, m, ra, rd, o⟩ := h
  unfold dAppend at o
  split at o
  · rename_i n es d hc
    split at o
    · obtain ⟨p, ys, rfl, hα, hμ, hH, t⟩ := cellL_rep m ra hc
      obtain ⟨w, rfl, rw'⟩ := one_rep rd
      exact mt_append pins s σ g.H _ _ v us Q I rx rxs ⟨p, ys, w, rfl, rfl, hH, by rw [← t.length]; assumption, out_put o m hα hμ (t.app (RepL.cons rw' RepL.nil)) rfl⟩
    · exact o.elim
  · exact o.elim
theorem md_insert : MtR X "list.insert" (rDM F dInsert) := by
  intro pins s σ H x xs v us Q I rx rxs h
  obtain ⟨g, a, ds, e, rfl, m, ra, rd, o⟩ := h
  unfold dInsert at o
  split at o
  · rename_i n es i d hc
    split at o
    · rename_i hh
      obtain ⟨p, ys, rfl, hα, hμ, hH, t⟩ := cellL_rep m ra hc
      obtain ⟨w1, w2, rfl, r1, r2⟩ := two_rep rd
      cases r1
      exact mt_insert pins s σ g.H _ _ v us Q I rx rxs ⟨p, ys, i, w2, rfl, rfl, hH, by rw [← t.length]; exact hh.1, hh.2.1, hh.2.2, out_put o m hα hμ (((t.take _).app (RepL.cons r2 RepL.nil)).app (t.drop _)) rfl⟩
    · exact o.elim
  · exact o.elim
theorem md_pop : MtR X "list.pop" (rDM F dPop) := by
  intro pins s σ H x xs v us Q I rx rxs h
  obtain ⟨g, a, ds, e, rfl, m, ra, rd, o⟩ := h
  unfold dPop at o
  split at o
  · rename_i n es hc
    split at o
    · rename_i d hd
      obtain ⟨p, ys, rfl, hα, hμ, hH, t⟩ := cellL_rep m ra hc
      cases rd
      obtain ⟨w, hw, rw'⟩ := t.get' hd
      rw [t.length] at hw
      exact mt_pop pins s σ g.H _ _ v us Q I rx rxs ⟨p, ys, w, rfl, rfl, hH, hw, out_put o m hα hμ (dropLast_rep t) rw'⟩
    · exact o.elim
  · exact o.elim
theorem md_popAt (hI : True := trivial) : MtR X "list.pop" (rDM F dPopAt) := by
  intro pins s σ H x xs v us Q I rx rxs h
  obtain ⟨g, a, ds, e, rfl, m, ra, rd, o⟩ := h
  unfold dPopAt at o
  split at o
  · rename_i n es i hc
    split at o
    · rename_i k hk
      split at o
      · rename_i d hd
        obtain ⟨p, ys, rfl, hα, hμ, hH, t⟩ := cellL_rep m ra hc
        obtain ⟨w1, rfl, r1⟩ := one_rep rd
        cases r1
        obtain ⟨w, hw, rw'⟩ := t.get' hd
        have z := ixN_seq hk
        have hs := (I.lstM hH).1
        have hl : es.length ≤ sizeLine := by rw [t.length]; exact hs
        have h63 := line63
        exact mt_popAt pins s σ g.H _ _ v us Q I rx rxs ⟨p, ys, i, k, w, rfl, rfl, hH, by omega, by omega, by rw [← t.length]; exact z.1, hw, out_put o m hα hμ (t.erase k) rw'⟩
      · exact o.elim
    · exact o.elim
  · exact o.elim
theorem md_extend : MtR X "list.extend" (rDM F dExtend) := by
  intro pins s σ H x xs v us Q I rx rxs h
  obtain ⟨g, a, ds, e, rfl, m, ra, rd, o⟩ := h
  unfold dExtend at o
  split at o
  · rename_i n es y hc
    split at o
    · rename_i zs hz
      split at o
      · rename_i hh
        obtain ⟨p, ys, rfl, hα, hμ, hH, t⟩ := cellL_rep m ra hc
        obtain ⟨w, rfl, rw'⟩ := one_rep rd
        obtain ⟨p2, vs, rfl, q2, t2⟩ := lstW_rep m rw' hz
        exact mt_extend pins s σ g.H _ _ v us Q I rx rxs ⟨p, p2, ys, vs, rfl, rfl, hH, q2, by rw [← t.length, ← t2.length]; exact hh, out_put o m hα hμ (t.app t2) rfl⟩
      · exact o.elim
    · exact o.elim
  · exact o.elim
end

/-! ### xs[i] = e, d[k] = e -/
def putKs (k : Key) (d : D) : List Key → List D → List Key × List D
  | j :: ks, v :: vs => if j = k then (j :: ks, d :: vs) else let p := putKs k d ks vs; (j :: p.1, v :: p.2)
  | _, _ => ([k], [d])
def cellD (μ : Mem) (x : D) : Option (Nat × List Key × List D) := match x with
  | .obj n => match μ[n]? with
    | some (.dic ks ds) => some (n, ks, ds)
    | _ => none
  | _ => none
def dSetItem (o i v : D) (μ : Mem) : Option Mem := match cellL μ o with
  | some (n, ds) => (match i with
    | .int j => (match ixN ds.length j with
      | some k => some (μ.set n (.lst (ds.set k v)))
      | none => none)
    | _ => none)
  | none => match cellD μ o, keyD i with
    | some (n, ks, ds), some k => if ks.length < sizeLine then some (μ.set n (.dic (putKs k v ks ds).1 (putKs k v ks ds).2)) else none
    | _, _ => none
theorem cellD_rep {g : G} (m : MemOk g) {x : D} {v : V} {n : Nat} {ks : List Key} {ds : List D} (r : Rep g x v) (h : cellD g.μ x = some (n, ks, ds)) : ∃ a xs, v = .ref a ∧ g.α[n]? = some a ∧ g.μ[n]? = some (.dic ks ds) ∧ g.H a = some (.dK (ks.zip xs)) ∧ ks.length = xs.length ∧ RepL g ds xs := by
  cases x with
  | obj k =>
    obtain ⟨a, q, rfl⟩ := r
    unfold cellD at h
    simp only at h
    split at h
    · rename_i es hc
      cases h
      obtain ⟨xs, h1, l, t⟩ := m.cells _ a _ q hc
      exact ⟨a, xs, rfl, q, hc, h1, l, t⟩
    · cases h
  | _ => cases h
theorem map_id_of {κ : Type} [DecidableEq κ] {kvs : List (κ × V)} {k : κ} {v : V} (h : (kvs.any fun kv => decide (kv.1 = k)) = false) : kvs.map (fun kv => if kv.1 = k then (kv.1, v) else kv) = kvs := by
  induction kvs with
  | nil => rfl
  | cons p r ih =>
    simp only [List.any_cons, Bool.or_eq_false_iff, decide_eq_false_iff_not] at h
    rw [List.map_cons, if_neg h.1, ih h.2]
theorem putKs_rep {g : G} {k : Key} {d : D} {v : V} (rd : Rep g d v) : ∀ {ks : List Key} {ds : List D} {xs : List V}, ks.length = xs.length → RepL g ds xs → ks.Nodup →
    ∃ ys, putK (ks.zip xs) k v = (putKs k d ks ds).1.zip ys ∧ (putKs k d ks ds).1.length = ys.length ∧ RepL g (putKs k d ks ds).2 ys
  | [], ds, xs, h, r, _ => by
    cases xs with
    | nil => exact ⟨[v], by simp [putK, putKs], by simp [putKs], by simp only [putKs]; exact RepL.cons rd RepL.nil⟩
    | cons _ _ => simp at h
  | j :: ks, [], xs, h, r, _ => by cases r; simp at h
  | j :: ks, e :: ds, _, h, r, nd => by
    obtain ⟨w, ws, rfl, r1, r2⟩ := r
    have hl : ks.length = ws.length := by simpa using h
    have nd2 := (List.nodup_cons.mp nd)
    by_cases ej : j = k
    · subst ej
      have hno : ((ks.zip ws).any fun kv => decide (kv.1 = j)) = false := by
        rw [List.any_eq_false]
        intro p hp
        simp only [decide_eq_true_eq]
        intro z
        exact nd2.1 (z ▸ (List.of_mem_zip (show (p.1, p.2) ∈ ks.zip ws from hp)).1)
      refine ⟨v :: ws, ?_, by simp [putKs, hl], ?_⟩
      · simp only [putKs, if_true, List.zip_cons_cons, putK, List.any_cons, decide_true, Bool.true_or, List.map_cons]
        rw [map_id_of hno]
      · simp only [putKs, if_true]
        exact RepL.cons rd r2
    · obtain ⟨ys, h1, h2, h3⟩ := putKs_rep (k := k) rd hl r2 nd2.2
      refine ⟨w :: ys, ?_, by simp [putKs, ej, h2], ?_⟩
      · simp only [putKs, ej, if_false, List.zip_cons_cons]
        rw [← h1]
        unfold putK
        simp only [List.any_cons, ej, decide_false, Bool.false_or, List.map_cons, if_false]
        by_cases hany : ((ks.zip ws).any fun kv => decide (kv.1 = k)) = true
        · rw [if_pos hany, if_pos hany]
        · rw [if_neg hany, if_neg hany]; rfl
      · simp only [putKs, ej, if_false]
        exact RepL.cons r1 h3
end Z

namespace Z
open PySem PySem.Spec PyProof.Rows L2

theorem dk_nodup {X : Cx} {pins : List (Addr × Obj)} {σ : L2.St} {H : Hp} {s : Shared} {a : Addr} {kvs : List (Key × V)} (I : Inv X pins σ H s) (h : H a = some (.dK kvs)) : (kvs.map (·.1)).Nodup := by
  obtain ⟨_, _, vs, rel, o, es, ep, _, _, _, _, _, nd⟩ := dk_of I.hok h
  rw [rel.keys]; exact nd
theorem zip_keys {ks : List Key} {xs : List V} (h : ks.length = xs.length) : (ks.zip xs).map (·.1) = ks := by
  rw [List.map_fst_zip]; omega
/-! ### o[i] = e -/
def rSetZ (F : Fx) : TSet := fun o i v H Q => ∃ (g : G) (a b c : D) (μ' : Mem), g.fx = F ∧ g.H = H ∧ MemOk g ∧ Rep g a o ∧ Rep g b i ∧ Rep g c v ∧ dSetItem a b c g.μ = some μ' ∧ ∀ g' : G, g'.μ = μ' → MemOk g' → Ext g g' → Q g'.H
section
variable {X : Cx} {F : Fx} {W : WX} {a b e o i : Expr} {fe fo fi : Sem} {pos pos' : Pos}
theorem set_any (hu : X.A.units + 70 < cLine) : PSet X (rSetZ F) := by
  intro pins s σ H o i v ov iv u Q I ro ri rv h
  obtain ⟨g, a, b, c, μ', e, rfl, m, ra, rb, rc, hs, q⟩ := h
  unfold dSetItem at hs
  split at hs
  · rename_i n ds hc
    split at hs
    · rename_i j
      split at hs
      · rename_i k hk
        cases hs
        obtain ⟨p, ys, rfl, hα, hμ, hH, t⟩ := cellL_rep m ra hc
        cases rb
        refine set_list pins s σ g.H _ _ v ov iv u Q I ro ri rv ⟨p, ys, j, k, rfl, rfl, hH, by rw [← t.length]; exact hk, ?_⟩
        exact q (g.wr n p (.lst (ys.set k v)) (.lst (ds.set k c))) rfl (m.wr hα hμ rfl ⟨_, upd_same, (RepL.set rc k t).mono (Ext.wr m hα hμ rfl)⟩) (Ext.wr m hα hμ rfl)
      · cases hs
    · cases hs
  · split at hs
    · rename_i n ks ds k h1 h2
      split at hs
      · rename_i hl
        cases hs
        obtain ⟨p, ys, rfl, hα, hμ, hH, l, t⟩ := cellD_rep m ra h1
        have e3 := keyD_rep rb h2
        subst e3
        have nd : ks.Nodup := by have := dk_nodup I hH; rwa [zip_keys l] at this
        obtain ⟨zs, z1, z2, z3⟩ := putKs_rep (k := k) rc l t nd
        refine set_dict (by omega) pins s σ g.H _ _ v ov iv u Q I ro ri rv ⟨p, _, rfl, DPut.k hH (by rw [List.length_zip, ← l, Nat.min_self]; exact hl), ?_⟩
        rw [z1]
        exact q (g.wr n p (.dK ((putKs k c ks ds).1.zip zs)) (.dic (putKs k c ks ds).1 (putKs k c ks ds).2)) rfl (m.wr hα hμ rfl ⟨zs, upd_same, z2, z3.mono (Ext.wr m hα hμ rfl)⟩) (Ext.wr m hα hμ rfl)
      · cases hs
    · cases hs
def sSetI (o i e : Sem) : SemS := fun ρ μ => (e ρ μ).s ρ fun v μ => (o ρ μ).s ρ fun x μ => (i ρ μ).s ρ fun k μ => match dSetItem x k v μ with
  | some μ' => .next ρ μ'
  | none => .bad
theorem ss_setI (hu : X.A.units + 70 < cLine) (ho : SE X F W o fo) (hi : SE X F W i fi) (he : SE X F W e fe)
    (ha : ∀ v, assign (.Subscript o i pos') X.env v = (do let ov ← holding [v] (eval o X.env); let iv ← holding [v, ov] (eval i X.env); standAt pos'; holding [v, ov, iv] (setItem ov iv v); release [v, ov, iv] []) := by intro _; rfl)
    (hs : swapsWithSole [.Subscript o i pos'] e pos.line X.env = pure false := by rfl) (hw : swappedStores [.Subscript o i pos'] e X.env = pure none := by rfl)
    (h1 : (assignEach [.Subscript o i pos'] X.env).map (·.2) = [assign (.Subscript o i pos') X.env] := by rfl) : SS X F W (.Assign [.Subscript o i pos'] e pos) (sSetI fo fi fe) :=
  PS.imp (ps_asg he (pg_sub ho hi (set_any hu) ha) hs hw h1) fun D σ H ⟨g, ρ, e1, e2, m, v, o⟩ => ⟨g, ρ, e1, e2, m, v, o.ex v fun d g1 w m1 x1 r1 o1 =>
    ⟨g1, ρ, x1.fx.trans e1, rfl, m1, v.mono x1, o1.ex (v.mono x1) fun y g2 yv m2 x2 r2 o2 =>
      ⟨g2, ρ, x2.fx.trans (x1.fx.trans e1), rfl, m2, (v.mono x1).mono x2, o2.ex ((v.mono x1).mono x2) fun k g3 kv m3 x3 r3 o3 => by
        cases hs : dSetItem y k d g3.μ with
        | none => simp only [hs] at o3; exact o3.elim
        | some μ' =>
          simp only [hs] at o3
          exact ⟨g3, y, k, d, μ', x3.fx.trans (x2.fx.trans (x1.fx.trans e1)), rfl, m3, r2.mono x3, r3, (r1.mono x2).mono x3, hs, fun g' e4 m4 x4 => o3 g' σ e4 m4 x4 (((v.mono x1).mono x2).mono (x3.trans x4))⟩⟩⟩⟩
/-! ### dicts -/
def fDict : Sem := fun _ μ => .ok (.obj μ.length) (μ ++ [.dic [] []])
theorem se_dict : SE X F W (.Dict [] [] pos) fDict := PE.imp pe_dnewK fun σ H Q ⟨g, ρ, e1, e2, m, v, o⟩ => by
  subst e2
  intro p hp
  exact o (g.new p (.dK []) (.dic [] [])) (.ref p) rfl (m.new hp ⟨[], upd_same, rfl, RepL.nil⟩) (Ext.new m hp) (new_at g m p _ _)
def dGet (x k d : D) (μ : Mem) : R D := match dicD μ x, keyD k with
  | some (ks, ds), some j => .ok ((lookD ks ds j).getD d) μ
  | _, _ => .bad
def fGet1 (o k : Sem) : Sem := fun ρ μ => (o ρ μ).bind fun x μ => match dicD μ x with
  | some _ => (k ρ μ).bind fun y μ => dGet x y .non μ
  | none => .bad
def fGet2 (o k d : Sem) : Sem := fun ρ μ => (o ρ μ).bind fun x μ => match dicD μ x with
  | some _ => (k ρ μ).bind fun y μ => (d ρ μ).bind fun z μ => dGet x y z μ
  | none => .bad
theorem dget_rep {g : G} (m : MemOk g) {x k d : D} {v w z : V} {E : XK} {Q : VK} (rx : Rep g x v) (rk : Rep g k w) (rd : Rep g d z) (o : Out Rep E g (dGet x k d g.μ) Q) : ∃ a op, v = .ref a ∧ DGet g.H a w op ∧ Q (op.getD z) g.H := by
  unfold dGet at o
  split at o
  · rename_i ks ds j h1 h2
    obtain ⟨p, xs, rfl, q, l, t⟩ := dicD_rep m rx h1
    have e3 := keyD_rep rk h2
    subst e3
    refine ⟨p, _, rfl, .inl ⟨_, _, q, rfl, rfl⟩, ?_⟩
    rcases lookD_rep (k := j) l t with ⟨z1, z2⟩ | ⟨d', w', z1, z2, rw'⟩
    · rw [z2]
      rw [z1] at o
      exact o.here m rd
    · rw [z2]
      rw [z1] at o
      exact o.here m rw'
  · exact o.elim
variable {f : Expr} {fk fd : Sem} {apos cpos : Pos}
theorem se_get1 (hu : X.A.units + 70 < cLine) (ho : SE X F W o fo) (he : SE X F W e fk) (m : M1 X o "get" apos e cpos := by exact ⟨rfl, rfl, rfl, rfl⟩) : SE X F W (.Call (.Attribute o "get" apos) [e] [] cpos) (fGet1 fo fk) :=
  PE.imp (pe_dget1 (by omega) ho he m) fun σ H Q h => tW.bind h fun g ρ x v e m w r o => by
    cases hd : dicD g.μ x with
    | none => simp only [hd] at o; exact o.elim
    | some p =>
      simp only [hd] at o
      obtain ⟨ks, ds⟩ := p
      obtain ⟨p, xs, rfl, q, l, t⟩ := dicD_rep m r hd
      refine ⟨p, rfl, .inl ⟨_, q⟩, g, ρ, e, rfl, m, w, o.bind fun y g1 u m1 x1 r1 o1 => ?_⟩
      obtain ⟨a, op, ea, dg, qq⟩ := dget_rep m1 (r.mono x1) r1 (d := .non) (z := .non) rfl o1
      cases ea
      exact ⟨op, dg, qq⟩
theorem se_get2 (hu : X.A.units + 70 < cLine) (ho : SE X F W o fo) (he : SE X F W e fk) (hf : SE X F W f fd) (m : M2 X o "get" apos e f cpos := by exact ⟨rfl, rfl, rfl, rfl⟩) : SE X F W (.Call (.Attribute o "get" apos) [e, f] [] cpos) (fGet2 fo fk fd) :=
  PE.imp (pe_dget2 (by omega) ho he hf m) fun σ H Q h => tW.bind h fun g ρ x v e m w r o => by
    cases hd : dicD g.μ x with
    | none => simp only [hd] at o; exact o.elim
    | some p =>
      simp only [hd] at o
      obtain ⟨ks, ds⟩ := p
      obtain ⟨p, xs, rfl, q, l, t⟩ := dicD_rep m r hd
      refine ⟨p, rfl, .inl ⟨_, q⟩, g, ρ, e, rfl, m, w, o.bind fun y g1 u m1 x1 r1 o1 => ⟨g1, ρ, x1.fx.trans e, rfl, m1, w.mono x1, o1.bind fun z g2 zv m2 x2 r2 o2 => ?_⟩⟩
      obtain ⟨a, op, ea, dg, qq⟩ := dget_rep m2 ((r.mono x1).mono x2) (r1.mono x2) r2 o2
      cases ea
      exact ⟨op, dg, qq⟩
end

/-! ### ranges, reversed lists -/
def rangeD (lo hi : Int) : List D := (List.range (hi - lo).toNat).map fun (i : Nat) => .int (lo + i)
def rg62 (i : Int) : Prop := -(2 ^ 62) ≤ i ∧ i < 2 ^ 62
instance (i : Int) : Decidable (rg62 i) := by unfold rg62; infer_instance
def iRg1 (a : Sem) : SemI := fun ρ μ => (a ρ μ).bind fun d μ => match d with
  | .int j => if rg62 j then .ok ⟨rangeD 0 j, none⟩ μ else .bad
  | _ => .bad
def iRg2 (a b : Sem) : SemI := fun ρ μ => (a ρ μ).bind fun d μ => (b ρ μ).bind fun e μ => match d, e with
  | .int i, .int j => if rg62 i ∧ rg62 j then .ok ⟨rangeD i j, none⟩ μ else .bad
  | _, _ => .bad
theorem repI_rg {g : G} {lo hi : Int} : RepI g ⟨rangeD lo hi, none⟩ (Itr lo (hi - lo).toNat) := fun g2 x m ok i => by
  refine ⟨fun d hd => ?_, fun e => ?_⟩
  · have hd' : (rangeD lo hi)[i]? = some d := hd
    unfold rangeD at hd'
    rw [List.getElem?_map] at hd'
    cases q : (List.range (hi - lo).toNat)[i]? with
    | none => rw [q] at hd'; cases hd'
    | some k =>
      rw [q] at hd'
      have e1 : d = .int (lo + k) := (Option.some.inj hd').symm
      have hi2 : i < (hi - lo).toNat := by have := (List.getElem?_eq_some_iff.mp q).1; simpa using this
      have e2 : k = i := by
        rw [List.getElem?_range hi2] at q
        exact (Option.some.inj q).symm
      subst e1; subst e2
      exact ⟨hi2, fun v H' ⟨h1, h2⟩ => ⟨g2, h1.symm, rfl, m, Ext.refl g2, h2⟩⟩
  · show (hi - lo).toNat ≤ i
    have : i = (rangeD lo hi).length := e
    unfold rangeD at this
    simp at this
    omega
def iRev (a : Sem) : SemI := fun ρ μ => (a ρ μ).bind fun x μ => match lstD μ x, wkD x μ with
  | some ds, some w => .ok ⟨ds.reverse, w.gd⟩ μ
  | _, _ => .bad
theorem wk_lst {μ : Mem} {x : D} {ds : List D} {w : Wk} (h1 : lstD μ x = some ds) (h2 : wkD x μ = some w) : w.ds = ds ∧ w.gd.ok μ := by
  cases x with
  | lst es => cases h1; cases h2; exact ⟨rfl, trivial⟩
  | sq es => cases h1; cases h2; exact ⟨rfl, trivial⟩
  | obj n =>
    cases e : μ[n]? with
    | none => simp [lstD, e] at h1
    | some c =>
      cases c with
      | lst es => simp [lstD, e] at h1; simp [wkD, e] at h2; subst h1; subst h2; exact ⟨rfl, e⟩
      | fz d =>
        cases d with
        | lst es => simp [lstD, e] at h1; simp [wkD, e] at h2; subst h1; subst h2; exact ⟨rfl, e⟩
        | _ => simp [lstD, e] at h1
      | _ => simp [lstD, e] at h1
  | _ => simp [lstD] at h1
theorem wk_keep {g g2 : G} (m2 : MemOk g2) (x2 : Ext g g2) {x : D} {v : V} {ds : List D} {w : Wk} (r : Rep g x v) (h1 : lstD g.μ x = some ds) (h2 : wkD x g.μ = some w) (ok : w.gd.ok g2.μ) : ∃ a xs, v = .ref a ∧ SqL g2.K g2.H a xs ∧ RepL g2 ds xs := by
  cases x with
  | lst es => cases h1; exact lstD_rep m2 (r.mono x2) rfl
  | sq es => cases h1; exact lstD_rep m2 (r.mono x2) rfl
  | obj n =>
    cases e : g.μ[n]? with
    | none => simp [lstD, e] at h1
    | some c =>
      cases c with
      | lst es =>
        simp [lstD, e] at h1; simp [wkD, e] at h2; subst h1; subst h2
        exact lstD_rep (ds := es) m2 (r.mono x2) (by have z : g2.μ[n]? = some (.lst es) := ok; simp [lstD, z])
      | fz d =>
        cases d with
        | lst es =>
          simp [lstD, e] at h1; simp [wkD, e] at h2; subst h1; subst h2
          exact lstD_rep (ds := es) m2 (r.mono x2) (by have z : g2.μ[n]? = some (.fz (.lst es)) := ok; simp [lstD, z])
        | _ => simp [lstD, e] at h1
      | _ => simp [lstD, e] at h1
  | _ => simp [lstD] at h1
theorem repI_rev {g : G} {K : PySem.W.Frag} (eK : g.K = K) {a : Addr} {ds : List D} {gd : Grd} (h : ∀ g2 : G, Ext g g2 → MemOk g2 → gd.ok g2.μ → ∃ xs, SqL K g2.H a xs ∧ RepL g2 ds xs) : RepI g ⟨ds.reverse, gd⟩ (Itv K a ds.length) := fun g2 x m ok i => by
  obtain ⟨xs, q, r⟩ := h g2 x m ok
  refine ⟨fun d hd => ?_, fun e => ?_⟩
  · have hd' : ds.reverse[i]? = some d := hd
    have hi : i < ds.length := by have := (List.getElem?_eq_some_iff.mp hd').1; simpa using this
    rw [List.getElem?_reverse hi] at hd'
    obtain ⟨v, hv, rv⟩ := r.get' hd'
    refine ⟨⟨hi, xs, v, q, hv⟩, fun y H' ⟨e1, f⟩ => ⟨g2, e1.symm, rfl, m, Ext.refl g2, ?_⟩⟩
    have := f xs q
    rw [hv] at this
    cases this
    exact rv
  · show ds.length ≤ i
    have : i = ds.reverse.length := e
    rw [List.length_reverse] at this
    omega
section
variable {X : Cx} {F : Fx} {W : WX} {tg a b : Expr} {fa fb : Sem} {p pos : Pos}
theorem si_rg1 (ha : SE X F W a fa) (hm : X.mg "range" = none) (hg : Gl X "range" := by rfl) (hs : starEach [a] X.env = [(false, eval a X.env)] := by rfl) : SI X F W tg (.Call (.Name "range" p) [a] [] pos) (iRg1 fa) := by
  intro pins s σ H RR I ⟨g, ρ, e1, e2, m, v, o⟩
  subst e2
  refine (pi_range1 hg hm (pa_cons ha pa_nil hs) hs).run pins s σ g.H RR I ⟨g, ρ, e1, rfl, m, v, Out.of_bind o fun d g1 w m1 x1 r1 o1 => ?_⟩
  cases d with
  | int j =>
    by_cases hj : rg62 j
    · simp only [hj, if_true] at o1
      cases r1
      exact ⟨j, rfl, hj.1, hj.2, o1 g1 _ rfl m1 (Ext.refl g1) ⟨by have := repI_rg (g := g1) (lo := 0) (hi := j); rwa [Int.sub_zero] at this, trivial⟩⟩
    · simp only [hj, if_false] at o1; exact o1.elim
  | _ => exact o1.elim
theorem si_rg2 (ha : SE X F W a fa) (hb : SE X F W b fb) (hm : X.mg "range" = none) (hg : Gl X "range" := by rfl) (hs : starEach [a, b] X.env = [(false, eval a X.env), (false, eval b X.env)] := by rfl) (hs2 : starEach [b] X.env = [(false, eval b X.env)] := by rfl) : SI X F W tg (.Call (.Name "range" p) [a, b] [] pos) (iRg2 fa fb) := by
  intro pins s σ H RR I ⟨g, ρ, e1, e2, m, v, o⟩
  subst e2
  refine (pi_range2 hg hm (pa_cons ha (pa_cons hb pa_nil hs2) (by rw [hs, hs2])) hs hs2).run pins s σ g.H RR I ⟨g, ρ, e1, rfl, m, v, Out.of_bind o fun d g1 w m1 x1 r1 o1 => ⟨g1, ρ, x1.fx.trans e1, rfl, m1, v.mono x1, Out.of_bind o1 fun e g2 u m2 x2 r2 o2 => ?_⟩⟩
  cases d with
  | int i =>
    cases e with
    | int j =>
      by_cases hj : rg62 i ∧ rg62 j
      · simp only [hj, and_self, if_true] at o2
        cases r1; cases r2
        exact ⟨i, j, rfl, ⟨hj.1.1, hj.1.2, hj.2.1, hj.2.2⟩, o2 g2 _ rfl m2 (Ext.refl g2) ⟨repI_rg, trivial⟩⟩
      · simp only [hj, if_false] at o2; exact o2.elim
    | _ => exact o2.elim
  | _ => exact o2.elim
theorem si_rev (hF : F.K = X.K) (ha : SE X F W a fa) (hm : X.mg "reversed" = none) (hg : Gl X "reversed" := by rfl) (hs : starEach [a] X.env = [(false, eval a X.env)] := by rfl) : SI X F W tg (.Call (.Name "reversed" p) [a] [] pos) (iRev fa) := by
  intro pins s σ H RR I ⟨g, ρ, e1, e2, m, v, o⟩
  subst e2
  refine (pi_reversed hg hm (pa_cons ha pa_nil hs) hs).run pins s σ g.H RR I ⟨g, ρ, e1, rfl, m, v, Out.of_bind o fun d g1 w m1 x1 r1 o1 => ?_⟩
  have eK := fxK (x1.fx.trans e1) hF
  cases h1 : lstD g1.μ d with
  | none => simp only [h1] at o1; exact o1.elim
  | some ds =>
    cases h2 : wkD d g1.μ with
    | none => simp only [h1, h2] at o1; exact o1.elim
    | some wk =>
      simp only [h1, h2] at o1
      obtain ⟨p, xs, rfl, q, t⟩ := lstD_rep m1 r1 h1
      refine ⟨p, xs, rfl, eK ▸ q, ?_⟩
      rw [← t.length]
      refine o1 g1 _ rfl m1 (Ext.refl g1) ⟨repI_rev eK fun g2 x2 m2 ok => ?_, (wk_lst h1 h2).2⟩
      obtain ⟨p2, ys, e3, q2, t2⟩ := wk_keep m2 x2 r1 h1 h2 ok
      cases e3
      exact ⟨ys, (x2.k.trans eK) ▸ q2, t2⟩
end
/-! ### a module's constants -/
section
variable {X : Cx} {F : Fx} {W : WX} {x : Str} {pos : Pos}
/-- a constant of the module -/
structure Con1 (mg : Str → Option Value) (x : Str) (d : D) : Prop where
  ex : ∃ (v : V) (u : Value), mg x = some u ∧ RelV v u ∧ ∀ g : G, Rep g d v
theorem se_gl {d : D} (h : Con1 X.mg x d) (hg : Gl X x := by rfl) (hd : (x == ("__debug__" : Str)) = false := by decide) : SE X F W (.Name x pos) (fC d) := by
  obtain ⟨v, u, hm, r, rep⟩ := h.ex
  exact PE.imp (pe_glob hg hm r hd) fun σ H Q ⟨g, ρ, _, e2, m, _, o⟩ => by subst e2; exact Out.here (a := d) o m (rep g)
end
/-! ### raise -/
structure XCls (K : PySem.W.Frag) (mg : Str → Option Value) (xc : Str → Option Addr) (c : Str) : Prop where
  ex : ∃ C : Addr, mg c = some (.ref C) ∧ xc c = some C ∧ PySem.W.excIn K C [.type "ValueError", .type "Exception", .type "BaseException", .type "object"] "ValueError.__new__" = true ∧ PySem.W.keepIn K (.ref C) = true ∧
    PySem.W.subIn K (.ref C) (.type "BaseException") = some true ∧ PySem.W.typeIn K (.ref C) = some (.type "type")
def sRaise (c : Str) (es : SemA) : SemS := fun ρ μ => (es ρ μ).s ρ fun ds μ => if ds.length ≤ sizeLine then .exc ⟨c, []⟩ ρ μ else .bad
section
variable {X : Cx} {F : Fx} {W : WX} {c : Str} {e : Expr} {es : List Expr} {fa : SemA} {p pos rpos : Pos}
theorem ss_raise (h : XCls X.K X.mg F.xc c) (hc : X.calm = true) (tk : Takes X W) (ha : SA X F W (e :: es) fa) (hg : Gl X c := by rfl) (hdb : (c == ("__debug__" : Str)) = false := by decide)
    (he : starEach (e :: es) X.env = (false, eval e X.env) :: starEach es X.env := by rfl) (hpl : (backTo pos (starEach es X.env)).any (·.1) = false := by rfl) : SS X F W (.Raise (some (.Call (.Name c p) (e :: es) [] pos)) none rpos) (sRaise c fa) := by
  obtain ⟨C, gC, xC, qC, kC, bC, tC⟩ := h.ex
  refine PS.imp (ps_raise hc tk (pmk_ownA PySem.F.excBase_ValueError qC gC kC (raises_own bC tC) hg ha hdb he hpl)) fun D σ H ⟨g, ρ, e1, e2, m, v, o⟩ => ?_
  refine ⟨g, ρ, e1, e2, m, v, o.ex v fun ds g1 vs m1 x1 r1 o1 => ?_⟩
  split at o1
  · rename_i hl
    rw [r1.length] at hl
    refine ⟨hl, ?_⟩
    exact o1 g1 σ (.ref C) none rfl m1 (Ext.refl g1) (v.mono x1) ⟨C, by have := x1.fx.trans e1; rw [← this] at xC; exact xC, rfl, .inl ⟨rfl, rfl⟩⟩
  · exact o1.elim
end
end Z

namespace Z
open PySem PySem.Spec PyProof.Rows L2

/-! ### sorted -/
abbrev SKey := List (Int ⊕ List Nat)
def keyI : D → Option (Int ⊕ List Nat)
  | .int i => some (.inl i)
  | .str x => some (.inr x.cps.toList)
  | _ => none
def keyIs : List D → Option SKey
  | [] => some []
  | d :: ds => match keyI d, keyIs ds with
    | some k, some ks => some (k :: ks)
    | _, _ => none
/-- the key of a datum: an int, a text, a tuple of those -/
def keyS : D → Option SKey
  | .int i => some [.inl i]
  | .str x => some [.inr x.cps.toList]
  | .tup ds => keyIs ds
  | _ => none
def kS (d : D) : SKey := (keyS d).getD []
def leK (a b : SKey) : Bool := !(listOrd itemOrd).blt b a
def leD (a b : D) : Bool := leK (kS a) (kS b)
def sortD (ds : List D) : List D := ds.mergeSort leD
theorem leK_trans (a b c : SKey) (h1 : leK a b = true) (h2 : leK b c = true) : leK a c = true := by
  have k1 : (listOrd itemOrd).kle a b := by unfold leK at h1; unfold KeyOrd.kle; simpa using h1
  have k2 : (listOrd itemOrd).kle b c := by unfold leK at h2; unfold KeyOrd.kle; simpa using h2
  have := KeyOrd.kle_trans k1 k2
  unfold KeyOrd.kle at this
  unfold leK
  rw [this]; rfl
theorem leK_total (a b : SKey) : (leK a b || leK b a) = true := by
  unfold leK
  cases e : (listOrd itemOrd).blt b a with
  | false => rfl
  | true =>
    have := KeyOrd.klt_asymm (O := listOrd itemOrd) e
    unfold KeyOrd.kle at this
    rw [this]; rfl
theorem leK_anti {a b : SKey} (h1 : leK a b = true) (h2 : leK b a = true) : a = b := by
  have k1 : (listOrd itemOrd).kle a b := by unfold leK at h1; unfold KeyOrd.kle; simpa using h1
  have k2 : (listOrd itemOrd).kle b a := by unfold leK at h2; unfold KeyOrd.kle; simpa using h2
  exact KeyOrd.kle_antisymm k1 k2
theorem str_ext {x y : Str} (h : x.cps.toList = y.cps.toList) : x = y := by
  cases x; cases y
  simp only at h
  rw [Array.toList_inj] at h
  rw [h]
theorem keyI_inj {a b : D} {k : Int ⊕ List Nat} (h1 : keyI a = some k) (h2 : keyI b = some k) : a = b := by
  cases a with
  | int i => cases h1; cases b with
    | int j => cases h2; rfl
    | str y => cases h2
    | _ => cases h2
  | str x => cases h1; cases b with
    | int j => cases h2
    | str y => rw [str_ext (Sum.inr.inj (Option.some.inj h2)).symm]
    | _ => cases h2
  | _ => cases h1
theorem keyIs_inj : ∀ {as bs : List D} {k : SKey}, keyIs as = some k → keyIs bs = some k → as = bs
  | [], [], _, _, _ => rfl
  | [], b :: bs, _, h1, h2 => by
    cases h1
    unfold keyIs at h2
    split at h2 <;> cases h2
  | a :: as, [], _, h1, h2 => by
    cases h2
    unfold keyIs at h1
    split at h1 <;> cases h1
  | a :: as, b :: bs, _, h1, h2 => by
    unfold keyIs at h1 h2
    split at h1
    · rename_i k1 k2 e1 e2
      cases h1
      split at h2
      · rename_i k3 k4 e3 e4
        cases h2
        rw [keyI_inj e1 e3, keyIs_inj e2 e4]
      · cases h2
    · cases h1
/-- the form of the items of a list that is sorted -/
inductive Frm where
  | ints | strs | tups (sh : List Bool)
deriving DecidableEq
def shI : List D → List Bool
  | [] => []
  | .str _ :: ds => true :: shI ds
  | _ :: ds => false :: shI ds
def frmD : D → Option Frm
  | .int _ => some .ints
  | .str _ => some .strs
  | .tup ds => if (keyIs ds).isSome then some (.tups (shI ds)) else none
  | _ => none
theorem frm_tup {ds : List D} {f : Frm} (h : frmD (.tup ds) = some f) : f = .tups (shI ds) ∧ ∃ k, keyIs ds = some k := by
  unfold frmD at h
  simp only at h
  split at h
  · rename_i e
    exact ⟨(Option.some.inj h).symm, Option.isSome_iff_exists.mp e⟩
  · cases h
theorem kS_inj {a b : D} {f : Frm} (h1 : frmD a = some f) (h2 : frmD b = some f) (h : kS a = kS b) : a = b := by
  cases a with
  | int i =>
    have h1 := Option.some.inj h1
    subst h1
    cases b with
    | int j => have : ([Sum.inl i] : SKey) = [.inl j] := h; cases this; rfl
    | str y => exact absurd h2 (by intro z; cases z)
    | tup ds => exact absurd (frm_tup h2).1 (by intro z; cases z)
    | _ => exact absurd h2 (by intro z; cases z)
  | str x =>
    have h1 := Option.some.inj h1
    subst h1
    cases b with
    | int j => exact absurd h2 (by intro z; cases z)
    | str y =>
      have : ([Sum.inr x.cps.toList] : SKey) = [.inr y.cps.toList] := h
      rw [str_ext (Sum.inr.inj (List.cons.inj this).1)]
    | tup ds => exact absurd (frm_tup h2).1 (by intro z; cases z)
    | _ => exact absurd h2 (by intro z; cases z)
  | tup as =>
    obtain ⟨rfl, k1, q1⟩ := frm_tup h1
    cases b with
    | tup bs =>
      obtain ⟨_, k2, q2⟩ := frm_tup h2
      have : (keyIs as).getD [] = (keyIs bs).getD [] := h
      rw [q1, q2] at this
      have : k1 = k2 := this
      subst this
      rw [keyIs_inj q1 q2]
    | _ => exact absurd h2 (by intro z; cases z)
  | _ => exact absurd h1 (by intro z; cases z)
theorem sortD_perm (ds : List D) : (sortD ds).Perm ds := List.mergeSort_perm ds leD
theorem sortD_sorted (ds : List D) : (sortD ds).Pairwise fun a b => leD a b = true :=
  List.pairwise_mergeSort (fun a b c => leK_trans (kS a) (kS b) (kS c)) (fun a b => leK_total (kS a) (kS b)) ds
/-- a sorted rearrangement is the sorted one -/
theorem sortD_uniq {f : Frm} {ds es : List D} (hf : ∀ d ∈ ds, frmD d = some f) (p : es.Perm ds) (s : es.Pairwise fun a b => leD a b = true) : es = sortD ds := by
  refine List.Perm.eq_of_pairwise (le := fun a b => leD a b = true) (fun a b ha hb h1 h2 => ?_) s (sortD_sorted ds) (p.trans (sortD_perm ds).symm)
  exact kS_inj (hf a (p.mem_iff.mp ha)) (hf b ((sortD_perm ds).mem_iff.mp hb)) (leK_anti h1 h2)
def frmOk (ds : List D) : Option Frm := match ds with
  | [] => some .ints
  | d :: ds => match frmD d with
    | some f => if ds.all (fun e => frmD e = some f) then some f else none
    | none => none
theorem frmOk_all {ds : List D} {f : Frm} (h : frmOk ds = some f) : ∀ d ∈ ds, frmD d = some f := by
  cases ds with
  | nil => intro d hd; cases hd
  | cons d ds =>
    unfold frmOk at h
    simp only at h
    cases e : frmD d with
    | none => rw [e] at h; cases h
    | some f' =>
      rw [e] at h
      simp only at h
      split at h
      · rename_i ha
        cases h
        intro x hx
        rcases List.mem_cons.mp hx with rfl | hx
        · exact e
        · exact of_decide_eq_true (List.all_eq_true.mp ha x hx)
      · cases h
def dSort : DFl := fun ds μ => match ds with
  | [x] => (match lstD μ x with
    | some ys => (match frmOk ys with
      | some .ints => .ok (sortD ys) μ
      | some .strs => if ys.length < 64 then .ok (sortD ys) μ else .bad
      | some (.tups sh) => if sh ≠ [] then .ok (sortD ys) μ else .bad
      | none => .bad)
    | none => .bad)
  | _ => .bad
theorem cm_sort (ds : List D) (μ : Mem) : (dSort ds μ).calm := by
  unfold dSort
  split
  · split
    · split
      · trivial
      · split <;> trivial
      · split <;> trivial
      · trivial
    · trivial
  · trivial
theorem ints_of_frm : ∀ {ds : List D}, (∀ d ∈ ds, frmD d = some .ints) → ∃ ns, intsD ds = some ns
  | [], _ => ⟨[], rfl⟩
  | d :: ds, h => by
    obtain ⟨ns, e⟩ := ints_of_frm (ds := ds) fun d hd => h d (List.mem_cons_of_mem _ hd)
    have := h d List.mem_cons_self
    cases d with
    | int i => exact ⟨i :: ns, by simp only [intsD, e]; rfl⟩
    | tup ds => exact absurd (frm_tup this).1 (by intro z; cases z)
    | _ => cases this
theorem strs_of_frm : ∀ {ds : List D}, (∀ d ∈ ds, frmD d = some .strs) → ∃ ns, strsD ds = some ns
  | [], _ => ⟨[], rfl⟩
  | d :: ds, h => by
    obtain ⟨ns, e⟩ := strs_of_frm (ds := ds) fun d hd => h d (List.mem_cons_of_mem _ hd)
    have := h d List.mem_cons_self
    cases d with
    | str i => exact ⟨i :: ns, by simp only [strsD, e]; rfl⟩
    | tup ds => exact absurd (frm_tup this).1 (by intro z; cases z)
    | _ => cases this
theorem rep_ints {g : G} : ∀ ns : List Int, RepL g (ns.map D.int) (ns.map V.int)
  | [] => rfl
  | n :: ns => RepL.cons rfl (rep_ints ns)
theorem rep_strs {g : G} : ∀ ns : List Str, RepL g (ns.map D.str) (ns.map V.str)
  | [] => rfl
  | n :: ns => RepL.cons rfl (rep_strs ns)
theorem intsD_map : ∀ {ds : List D} {ns : List Int}, intsD ds = some ns → ds = ns.map D.int
  | [], _, h => by cases h; rfl
  | d :: ds, ns, h => by
    cases d with
    | int i =>
      simp only [intsD] at h
      cases e : intsD ds with
      | none => rw [e] at h; cases h
      | some ms => rw [e] at h; cases h; rw [intsD_map e]; rfl
    | _ => simp [intsD] at h
theorem strsD_map : ∀ {ds : List D} {ns : List Str}, strsD ds = some ns → ds = ns.map D.str
  | [], _, h => by cases h; rfl
  | d :: ds, ns, h => by
    cases d with
    | str i =>
      simp only [strsD] at h
      cases e : strsD ds with
      | none => rw [e] at h; cases h
      | some ms => rw [e] at h; cases h; rw [strsD_map e]; rfl
    | _ => simp [strsD] at h
theorem leD_int (i j : Int) : leD (.int i) (.int j) = decide (i ≤ j) := by
  show (!(decide (j < i) || (!(decide (i < j)) && false))) = _
  by_cases h : j < i
  · simp [h, Int.not_le.mpr h]
  · simp [h, Int.not_lt.mp h]
theorem RepL.perm {g : G} {xs ys : List V} (p : ys.Perm xs) : ∀ {ds : List D}, RepL g ds xs → ∃ es, es.Perm ds ∧ RepL g es ys := by
  induction p with
  | nil => intro ds r; exact ⟨ds, .refl _, r⟩
  | cons x p ih =>
    intro ds r
    cases ds with
    | nil => cases r
    | cons d ds =>
      obtain ⟨v, vs, e, r1, r2⟩ := r
      cases e
      obtain ⟨es, p', r'⟩ := ih r2
      exact ⟨d :: es, p'.cons d, RepL.cons r1 r'⟩
  | swap x y l =>
    intro ds r
    cases ds with
    | nil => cases r
    | cons d ds =>
      obtain ⟨v, vs, e, r1, r2⟩ := r
      cases e
      cases ds with
      | nil => cases r2
      | cons d2 ds =>
        obtain ⟨v, vs, e, r3, r4⟩ := r2
        cases e
        exact ⟨d2 :: d :: ds, .swap _ _ _, RepL.cons r3 (RepL.cons r1 r4)⟩
  | trans p1 p2 ih1 ih2 =>
    intro ds r
    obtain ⟨es, q1, r1⟩ := ih2 r
    obtain ⟨fs, q2, r2⟩ := ih1 r1
    exact ⟨fs, q2.trans q1, r2⟩
theorem tupItems_of {g : G} {sh : Nat → Bool} : ∀ {es : List D} {vs : List V} {us : List Value} {k : SKey} {i : Nat}, RepL g es vs → Vals vs us → keyIs es = some k → (∀ j, j < es.length → sh (i + j) = (shI es).getD j false) → tupItems sh i us = some k
  | [], _, _, _, _, r, v, e, _ => by cases r; cases v; cases e; rfl
  | d :: es, _, _, k, i, ⟨x, vs, e, r1, r2⟩, v, ek, hs => by
    subst e
    cases v with
    | cons v1 v2 =>
      rename_i u us
      unfold keyIs at ek
      split at ek
      · rename_i k1 k2 e1 e2
        cases ek
        have h0 := hs 0 (by simp)
        have hn : ∀ j, j < es.length → sh (i + 1 + j) = (shI es).getD j false := fun j hj => by
          have := hs (j + 1) (by simp; omega)
          rw [show i + 1 + j = i + (j + 1) by omega, this]
          cases d <;> rfl
        have ih := tupItems_of r2 v2 e2 hn
        cases d with
        | int n =>
          cases e1
          cases r1
          obtain ⟨t, rfl⟩ := v1
          have h0' : sh i = false := h0
          show (if sh i = true then none else (tupItems sh (i + 1) us).map (Sum.inl n :: ·)) = _
          rw [h0', ih]; rfl
        | str y =>
          cases e1
          cases r1
          obtain ⟨t, rfl⟩ := v1
          have h0' : sh i = true := h0
          show (if sh i = true then (tupItems sh (i + 1) us).map (Sum.inr y.cps.toList :: ·) else none) = _
          rw [h0', ih]; rfl
        | _ => cases e1
      · cases ek
theorem tupsOf_of {h : Heap} {sh : Nat → Bool} : ∀ {vs : List Value}, (∀ v ∈ vs, ∃ f, TupOf h sh v f) → ∃ fs, TupsOf h sh vs fs
  | [], _ => ⟨[], .nil⟩
  | v :: vs, hv => by
    obtain ⟨f, t⟩ := hv v List.mem_cons_self
    obtain ⟨fs, ts⟩ := tupsOf_of fun u hu => hv u (List.mem_cons_of_mem _ hu)
    exact ⟨f :: fs, .cons t ts⟩
theorem shI_len : ∀ es : List D, (shI es).length = es.length
  | [] => rfl
  | d :: es => by cases d <;> simp [shI, shI_len es]
theorem tupKeyC_of' {h : Heap} {shape : Nat → Bool} {a : Addr} {o : Obj} {xs : Array Value} {n : Nat} {l : SKey} (ho : h.get? a = some o) (hc : o.cls = .type "tuple") (hd : o.data = .seq xs n) (hi : tupItems shape 0 xs.toList = some l) :
    PyProof.Rows.G.tupKeyC h shape (.ref a) = some l := by
  unfold PyProof.Rows.G.tupKeyC
  have h1 : PyProof.Rows.G.isTupObj h (.ref a) = true := by
    simp only [PyProof.Rows.G.isTupObj, ho, hc]
    rfl
  rw [if_pos h1]
  simp only [tupKey, ho, hd]
  exact hi
section
variable {X : Cx} {F : Fx}
theorem tup_at {pins : List (Addr × Obj)} {σ : L2.St} {s : Shared} {g : G} (eK : g.K = X.K) (I : Inv X pins σ g.H s) {d : D} {x : V} {u : Value} {sh : List Bool} (hne : sh ≠ []) (r : Rep g d x) (ru : RelV x u) (hf : frmD d = some (.tups sh)) :
    PyProof.Rows.G.tupKeyC s.heap (fun i => sh.getD i false) u = some (kS d) ∧ (∃ a, x = .ref a) ∧ ∃ f, TupOf s.heap (fun i => sh.getD i false) u f := by
  cases d with
  | tup es =>
    obtain ⟨e1, k, hk⟩ := frm_tup hf
    cases e1
    obtain ⟨a, vs, rfl, q, t⟩ := r
    cases (show u = Value.ref a from ru)
    obtain ⟨its, rv, ⟨o, ho, hc, n, hd⟩, _⟩ := I.tuple (eK ▸ q.sq)
    have hi := tupItems_of (sh := fun i => (shI es).getD i false) (i := 0) t rv hk (fun j _ => by simp)
    have ek : kS (.tup es) = k := by show (keyIs es).getD [] = k; rw [hk]; rfl
    rw [ek]
    refine ⟨tupKeyC_of' ho hc hd (by simpa using hi), ⟨a, rfl⟩, ?_⟩
    cases es with
    | nil => exact absurd rfl hne
    | cons d0 es =>
      obtain ⟨x0, vs0, e0, r0, t0⟩ := t
      subst e0
      cases rv with
      | cons v0 v1 =>
        rename_i u0 us0
        refine ⟨u0, a, o, _, n, rfl, ho, hc, hd, rfl, fun h => ?_, fun h => ?_⟩
        · cases d0 with
          | int i => cases r0; obtain ⟨t, e⟩ := v0; exact ⟨_, t, e⟩
          | str y => exact absurd h (by simp [shI])
          | _ => (unfold keyIs at hk; simp [keyI] at hk)
        · cases d0 with
          | str y => cases r0; obtain ⟨t, e⟩ := v0; exact ⟨_, t, e⟩
          | _ => exact absurd h (by simp [shI])
  | _ => exact absurd hf (by intro z; cases z)
theorem get_of_mem {α : Type} {l : List α} {i : Nat} (h : i < l.length) : l[i]? = some l[i] := List.getElem?_eq_getElem h
theorem sorted_es {pins : List (Addr × Obj)} {σ : L2.St} {s : Shared} {g : G} (eK : g.K = X.K) (I : Inv X pins σ g.H s) {sh : List Bool} (hne : sh ≠ []) {ds : List D} {xs : List V} {its : List Value} (hf : ∀ d ∈ ds, frmD d = some (.tups sh))
    (t : RepL g ds xs) (rv : Vals xs its) {arr : Array Keyed} (hp : arr.Perm (pairsOf its)) (hs : SortedToK (PyProof.Rows.G.tupKindC s.heap (fun i => sh.getD i false)) arr (pairsOf its).size) :
    RepL g (sortD ds) ((arr.map (·.2)).toList.map backV) ∧ ∀ u ∈ (arr.map (·.2)).toList, ∃ a, u = Value.ref a := by
  have hp' : arr.toList.Perm (its.zip its) := by
    have := Array.perm_iff_toList_perm.mp hp
    rwa [pairsOf_toList] at this
  have hall : ∀ p ∈ arr.toList, p.1 = p.2 ∧ p.2 ∈ its := fun p m => by
    have := mem_zip_self (hp'.mem_iff.mp m)
    exact ⟨this.1, this.1 ▸ this.2⟩
  have ep : (arr.map (·.2)).toList = arr.toList.map (·.2) := by simp
  have hout : (arr.toList.map (·.2)).Perm its := by
    have := hp'.map (·.2)
    rwa [List.map_snd_zip (Nat.le_refl _)] at this
  have hx : ∀ x ∈ xs, ∃ a, x = V.ref a := fun x m => by
    obtain ⟨i, hi, e⟩ := List.getElem_of_mem m
    obtain ⟨d, hd, rd⟩ := t.get (get_of_mem hi)
    rw [e] at rd
    obtain ⟨u, hu, ru⟩ := rv.get (get_of_mem hi)
    rw [e] at ru
    exact (tup_at eK I hne rd ru (hf d (List.mem_of_getElem? hd))).2.1
  obtain ⟨e1, e2⟩ := refs_back rv hx
  rw [ep]
  have e3 : ∀ u ∈ arr.toList.map (·.2), ∃ a, u = Value.ref a := fun u hu => e2 u (hout.mem_iff.mp hu)
  refine ⟨?_, e3⟩
  have pV : ((arr.toList.map (·.2)).map backV).Perm xs := by rw [e1]; exact hout.map backV
  obtain ⟨es, p, r⟩ := RepL.perm pV t
  have hfe : ∀ d ∈ es, frmD d = some (.tups sh) := fun d hd => hf d (p.mem_iff.mp hd)
  have hlen : es.length = arr.size := by rw [r.length]; simp
  have hkey : ∀ (i : Nat) (hi : i < es.length), KK (PyProof.Rows.G.tupKindC s.heap (fun i => sh.getD i false)) arr i = kS es[i] := fun i hi => by
    have ha : i < arr.toList.length := by simp; omega
    have hav : arr[i]? = some arr.toList[i] := by simp
    have hm : arr.toList[i] ∈ arr.toList := List.getElem_mem ha
    obtain ⟨x, hxx, rx⟩ := r.get' (get_of_mem hi)
    have hx2 : ((arr.toList.map (·.2)).map backV)[i]? = some (backV arr.toList[i].2) := by rw [List.getElem?_map, List.getElem?_map, get_of_mem ha]; rfl
    rw [hx2] at hxx
    have ex := (Option.some.inj hxx).symm
    obtain ⟨a, ea⟩ := e3 arr.toList[i].2 (List.mem_map.mpr ⟨_, hm, rfl⟩)
    have ru : RelV x arr.toList[i].2 := by rw [ex, ea]; exact rfl
    have := (tup_at eK I hne rx ru (hfe _ (List.getElem_mem hi))).1
    unfold KK
    rw [hav]
    show (PyProof.Rows.G.tupKeyC s.heap (fun i => sh.getD i false) arr.toList[i].1).getD [] = _
    rw [(hall _ hm).1, this]; rfl
  have srt : es.Pairwise fun a b => leD a b = true := by
    rw [List.pairwise_iff_getElem]
    intro i j hi hj hij
    have hsz : (pairsOf its).size = arr.size := hp.size_eq.symm
    have := hs i j (Nat.le_of_lt hij) (by rw [hsz, ← hlen]; exact hj)
    rw [hkey i hi, hkey j hj] at this
    show (!(listOrd itemOrd).blt (kS es[j]) (kS es[i])) = true
    have z : (listOrd itemOrd).blt (kS es[j]) (kS es[i]) = false := this
    rw [z]; rfl
  rw [← sortD_uniq hf p srt]
  exact r
theorem ltCps_dec : ∀ x y : List Nat, ltCps x y = decide (x < y)
  | [], [] => by simp [ltCps]
  | [], _ :: _ => by simp [ltCps]
  | _ :: _, [] => by simp [ltCps]
  | a :: r, b :: t => by
    simp only [ltCps, ltCps_dec r t]
    rw [Bool.eq_iff_iff]
    simp [List.cons_lt_cons_iff]
theorem leD_str (x y : Str) : leD (.str x) (.str y) = !ltCps y.cps.toList x.cps.toList := by
  rw [ltCps_dec]
  show (!(decide (y.cps.toList < x.cps.toList) || (!(decide (x.cps.toList < y.cps.toList)) && false))) = _
  simp
theorem leD_trans {a b c : D} (h1 : leD a b = true) (h2 : leD b c = true) : leD a c = true := leK_trans _ _ _ h1 h2
theorem rising_all : ∀ {ys : List Str} {x : Str}, risingS x ys = true → (∀ y ∈ ys, leD (.str x) (.str y) = true) ∧ (ys.map D.str).Pairwise fun a b => leD a b = true
  | [], _, _ => ⟨fun y hy => absurd hy (by simp), List.Pairwise.nil⟩
  | y :: ys, x, h => by
    simp only [risingS, Bool.and_eq_true] at h
    obtain ⟨h1, h2⟩ := h
    obtain ⟨k1, k2⟩ := rising_all h2
    have e : leD (.str x) (.str y) = true := by rw [leD_str]; exact h1
    refine ⟨fun z hz => ?_, ?_⟩
    · rcases List.mem_cons.mp hz with rfl | hz
      · exact e
      · exact leD_trans e (k1 z hz)
    · refine List.Pairwise.cons (fun d hd => ?_) k2
      obtain ⟨z, hz, rfl⟩ := List.mem_map.mp hd
      exact k1 z hz
theorem rising_le {ys : List Str} (h : sortedS ys = true) : (ys.map D.str).Pairwise fun a b => leD a b = true := by
  cases ys with
  | nil => exact List.Pairwise.nil
  | cons x ys =>
    obtain ⟨k1, k2⟩ := rising_all (x := x) (ys := ys) h
    refine List.Pairwise.cons (fun d hd => ?_) k2
    obtain ⟨z, hz, rfl⟩ := List.mem_map.mp hd
    exact k1 z hz
theorem cf_sort (hF : F.K = X.K) : CallR X (.builtin "sorted") (rDF F dSort) := by
  intro pins s σ H vs us Q I r h
  obtain ⟨g, ds, e, rfl, m, rr, o⟩ := h
  have eK := fxK e hF
  unfold dSort at o
  split at o
  · obtain ⟨v, rfl, rx⟩ := one_rep rr
    split at o
    · rename_i ys hl
      obtain ⟨p, xs, rfl, q, t⟩ := lstD_rep m rx hl
      split at o
      · rename_i hk
        have hf := frmOk_all hk
        obtain ⟨ns, en⟩ := ints_of_frm hf
        have ex := intsD_rep t en
        subst ex
        refine cr_sortedI pins s σ g.H _ us Q I r ⟨p, ns, rfl, eK ▸ q, fun ns' p' hp hs hn => ?_⟩
        have e2 : ns'.map D.int = sortD ys := by
          refine sortD_uniq hf ?_ ?_
          · rw [intsD_map en]; exact hp.map _
          · rw [List.pairwise_map]
            exact hs.imp fun {a b} h => by rw [leD_int]; exact decide_eq_true h
        exact Out.here (a := _) o m (e2 ▸ rep_ints ns') p' hn
      · rename_i hk
        have hf := frmOk_all hk
        obtain ⟨ns, en⟩ := strs_of_frm hf
        have ex := strsD_rep t en
        subst ex
        split at o
        · rename_i h64
          have hlen : ns.length < 64 := by rw [strsD_map en] at h64; simpa using h64
          refine cr_sortedS pins s σ g.H _ us Q I r ⟨p, ns, rfl, eK ▸ q, hlen, fun ns' p' hp hs hn => ?_⟩
          have e2 : ns'.map D.str = sortD ys := by
            refine sortD_uniq hf ?_ (rising_le hs)
            rw [strsD_map en]; exact hp.map _
          exact Out.here (a := _) o m (e2 ▸ rep_strs ns') p' hn
        · exact o.elim
      · rename_i sh hk
        have hf := frmOk_all hk
        split at o
        · rename_i hne
          obtain ⟨its, rv, hl2, hz⟩ := I.list (eK ▸ q)
          rw [Vals.ref1 r]
          have hk2 : ∀ v ∈ its, (∃ f, PyProof.Rows.TupOf s.heap (fun i => sh.getD i false) v f) ∧ ∃ l, PyProof.Rows.G.tupKeyC s.heap (fun i => sh.getD i false) v = some l := fun v hv => by
            obtain ⟨i, hi, e⟩ := List.getElem_of_mem hv
            have hix : i < xs.length := by rw [rv.length]; exact hi
            obtain ⟨u, hu, ru⟩ := rv.get (get_of_mem hix)
            rw [get_of_mem hi] at hu
            cases hu
            obtain ⟨d, hd, rd⟩ := t.get (get_of_mem hix)
            have := tup_at eK I hne rd ru (hf d (List.mem_of_getElem? hd))
            rw [e] at this
            exact ⟨this.2.2, _, this.1⟩
          obtain ⟨fs, hfs⟩ := tupsOf_of fun v hv => (hk2 v hv).1
          refine PyProof.Rows.G.sorted_tups hl2.isList hfs (fun v hv => (hk2 v hv).2) (by rw [← rv.length]; exact hz) fun st' hp hs _ => ?_
          obtain ⟨rr2, hrefs⟩ := sorted_es eK I hne hf t rv hp hs
          obtain ⟨ep, he'⟩ := PyProof.Rows.sortedAll_at s.heap its ((arrOf st').map (·.2))
          have hlen : (((arrOf st').map (·.2)).toList.map backV).length ≤ sizeLine := by
            rw [← rr2.length, (sortD_perm ys).length_eq, t.length]; exact hz
          exact ⟨.ref _, upd g.H (s.heap.objs.size + 1) (.lst (((arrOf st').map (·.2)).toList.map backV)), I.laid (t' := s.toks) (fun _ _ => PyProof.Rows.sortedAll_old) (Nat.le_succ _) ⟨hlen, _, ep, vals_back hrefs, he'⟩, rfl,
            Out.here (a := _) o m rr2 _ (I.hok.fresh (Nat.le_succ _))⟩
        · exact o.elim
      · exact o.elim
    · exact o.elim
  · exact o.elim
end
end Z

namespace Z
open PySem PySem.Spec PyProof.Rows L2

/-! ### a variable whose cell becomes a tree, with what it holds -/
def resO (μ : Mem) : D → D
  | .obj n => match μ[n]? with
    | some (.fz t) => t
    | _ => .obj n
  | d => d
def resT (μ : Mem) : D → D
  | .tup ds => .tup (ds.map (resO μ))
  | d => resO μ d
def Cell.kids : Cell → List D
  | .lst ds => ds
  | .dic _ ds => ds
  | _ => []
def Cell.res (μ : Mem) : Cell → Option D
  | .lst ds => some (.lst (ds.map (resT μ)))
  | .dic ks ds => some (.dic ks (ds.map (resT μ)))
  | .fz t => some t
  | _ => none
def foldM {α : Type} (f : α → Mem → Option Mem) : List α → Mem → Option Mem
  | [], μ => some μ
  | d :: ds, μ => match f d μ with
    | some μ' => foldM f ds μ'
    | none => none
def frzN : Nat → D → Mem → Option Mem
  | 0, _, μ => some μ
  | k + 1, .obj n, μ => match μ[n]? with
    | some c => (match foldM (frzN k) c.kids μ with
      | some μ' => (match (μ'[n]?).bind (Cell.res μ') with
        | some t => some (μ'.set n (.fz t))
        | none => none)
      | none => none)
    | none => none
  | k + 1, .tup ds, μ => foldM (frzN k) ds μ
  | _, _, μ => some μ
theorem resO_rep {g : G} (m : MemOk g) {d : D} {v : V} (r : Rep g d v) : Rep g (resO g.μ d) v := by
  cases d with
  | obj n =>
    obtain ⟨a, q, rfl⟩ := r
    show Rep g (match g.μ[n]? with | some (.fz t) => t | _ => .obj n) (.ref a)
    split
    · rename_i t h
      exact m.cells n a _ q h
    · exact ⟨a, q, rfl⟩
  | _ => exact r
theorem resOs_rep {g : G} (m : MemOk g) : ∀ {ds : List D} {xs : List V}, RepL g ds xs → RepL g (ds.map (resO g.μ)) xs
  | [], _, r => r
  | d :: ds, _, ⟨v, vs, e, r, t⟩ => ⟨v, vs, e, resO_rep m r, resOs_rep m t⟩
theorem resT_rep {g : G} (m : MemOk g) {d : D} {v : V} (r : Rep g d v) : Rep g (resT g.μ d) v := by
  cases d with
  | tup ds =>
    obtain ⟨a, xs, e, t, r⟩ := r
    exact ⟨a, xs, e, t, resOs_rep m r⟩
  | _ => exact resO_rep m r
theorem resTs_rep {g : G} (m : MemOk g) : ∀ {ds : List D} {xs : List V}, RepL g ds xs → RepL g (ds.map (resT g.μ)) xs
  | [], _, r => r
  | d :: ds, _, ⟨v, vs, e, r, t⟩ => ⟨v, vs, e, resT_rep m r, resTs_rep m t⟩
theorem res_rep {g : G} (m : MemOk g) {n : Nat} {d : D} {a : Addr} {c : Cell} (hα : g.α[n]? = some a) (hμ : g.μ[n]? = some c) (ht : c.res g.μ = some d) : Rep (g.frz n d) d (.ref a) := by
  have r := m.cells n a c hα hμ
  cases c with
  | lst ds =>
    cases ht
    obtain ⟨xs, e, q⟩ := r
    exact ⟨a, xs, rfl, ⟨e, m.frz_nP hα⟩, (resTs_rep m q).mono Ext.frz⟩
  | dic ks ds =>
    cases ht
    obtain ⟨xs, e, l, q⟩ := r
    exact ⟨a, xs, rfl, ⟨.inl e, m.frz_nP hα⟩, l, (resTs_rep m q).mono Ext.frz⟩
  | fz d' =>
    cases ht
    exact Rep.mono Ext.frz r
  | diT _ _ => cases ht
  | ins _ _ => cases ht
structure GTo (g : G) (μ : Mem) (g' : G) : Prop where
  h : g'.H = g.H
  μ : g'.μ = μ
  m : MemOk g'
  x : Ext g g'
  e : g'.fx = g.fx
theorem foldM_ok {f : D → Mem → Option Mem} (hf : ∀ (d : D) (g : G) (μ : Mem), MemOk g → f d g.μ = some μ → ∃ g', GTo g μ g') : ∀ (ds : List D) (g : G) (μ : Mem), MemOk g → foldM f ds g.μ = some μ → ∃ g', GTo g μ g'
  | [], g, μ, m, h => by cases h; exact ⟨g, rfl, rfl, m, Ext.refl g, rfl⟩
  | d :: ds, g, μ, m, h => by
    unfold foldM at h
    cases e : f d g.μ with
    | none => rw [e] at h; cases h
    | some μ1 =>
      rw [e] at h
      obtain ⟨g1, t1⟩ := hf d g μ1 m e
      have h' : foldM f ds g1.μ = some μ := by rw [t1.μ]; exact h
      obtain ⟨g2, t2⟩ := foldM_ok hf ds g1 μ t1.m h'
      exact ⟨g2, t2.h.trans t1.h, t2.μ, t2.m, t1.x.trans t2.x, t2.e.trans t1.e⟩
theorem frzN_ok : ∀ (k : Nat) (d : D) (g : G) (μ : Mem), MemOk g → frzN k d g.μ = some μ → ∃ g', GTo g μ g'
  | 0, d, g, μ, m, h => by
    have h' : some g.μ = some μ := by cases d <;> exact h
    cases h'
    exact ⟨g, rfl, rfl, m, Ext.refl g, rfl⟩
  | k + 1, d, g, μ, m, h => by
    cases d with
    | obj n =>
      unfold frzN at h
      cases e : g.μ[n]? with
      | none => rw [e] at h; cases h
      | some c =>
        rw [e] at h
        simp only at h
        cases e2 : foldM (frzN k) c.kids g.μ with
        | none => rw [e2] at h; cases h
        | some μ1 =>
          rw [e2] at h
          simp only at h
          obtain ⟨g1, t1⟩ := foldM_ok (frzN_ok k) c.kids g μ1 m e2
          rw [← t1.μ] at h
          cases e3 : g1.μ[n]? with
          | none => rw [e3] at h; cases h
          | some c1 =>
            rw [e3] at h
            simp only [Option.bind_some] at h
            cases e4 : c1.res g1.μ with
            | none => rw [e4] at h; cases h
            | some t =>
              rw [e4] at h
              cases h
              obtain ⟨a, hα, _⟩ := t1.m.at e3
              exact ⟨g1.frz n t, t1.h, rfl, t1.m.frz hα (res_rep t1.m hα e3 e4), t1.x.trans Ext.frz, t1.e⟩
    | tup ds => exact foldM_ok (frzN_ok k) ds g μ m h
    | _ => cases h; exact ⟨g, rfl, rfl, m, Ext.refl g, rfl⟩
def fFzN (k i : Nat) : Sem := fun ρ μ => (fV i ρ μ).bind fun d μ => match frzN k d μ with
  | some μ' => .ok (resT μ' d) μ'
  | none => .bad
section
variable {X : Cx} {F : Fx} {W : WX} {pos : Pos}
theorem se_fzN (k i : Nat) {x : Str} (hN : X.N[i]? = some x := by rfl) (hv : Vis X.env.scope x := by first | exact .inl rfl | exact .inr (.inl rfl) | exact .inr (.inr rfl)) (hd : (x == ("__debug__" : Str)) = false := by decide) (hcd : (x == ("__classdict__" : Str)) = false := by decide) : SE X F W (.Name x pos) (fFzN k i) :=
  PE.imp (pe_var (i := i) hN hv hd hcd) fun σ H Q ⟨g, ρ, _, e2, m, v, o⟩ => by
    subst e2
    unfold fFzN fV at o
    cases e : Env.at ρ i with
    | none => rw [e] at o; exact o.elim
    | some d =>
      rw [e] at o
      obtain ⟨w, h1, h2⟩ := v.2 i d (Env.at_some e)
      refine ⟨w, h1, ?_⟩
      have o' : Out Rep (fun c d H' => W c d σ H') g (match frzN k d g.μ with | some μ' => R.ok (resT μ' d) μ' | none => .bad) Q := o
      cases e2 : frzN k d g.μ with
      | none => rw [e2] at o'; exact o'.elim
      | some μ' =>
        rw [e2] at o'
        obtain ⟨g1, t⟩ := frzN_ok k d g μ' m e2
        have := o' g1 w t.μ t.m t.x (by rw [← t.μ]; exact resT_rep t.m (h2.mono t.x))
        rwa [t.h] at this
end

/-! ### isinstance -/
inductive Ty where
  | non | bl | int | str | tup | lst | dic
deriving DecidableEq
def Ty.nm : Ty → String
  | .non => "NoneType" | .bl => "bool" | .int => "int" | .str => "str" | .tup => "tuple" | .lst => "list" | .dic => "dict"
def tyOf (μ : Mem) : D → Option Ty
  | .non => some .non
  | .bl _ => some .bl
  | .int _ => some .int
  | .str _ => some .str
  | .tup _ => some .tup
  | .lst _ => some .lst
  | .sq _ => some .lst
  | .dic _ _ => some .dic
  | .obj n => match μ[n]? with
    | some (.lst _) => some .lst
    | some (.dic _ _) => some .dic
    | some (.fz (.lst _)) => some .lst
    | some (.fz (.dic _ _)) => some .dic
    | _ => none
  | .exn _ _ _ => none
/-- is t the type T, or one under it -/
def Ty.is (t T : Ty) : Bool := decide (t = T) || (decide (t = .bl) && decide (T = .int))
theorem kit_Ty {K : PySem.W.Frag} (t T : Ty) : PySem.W.kitOne K (.type t.nm) (.type T.nm) = some (t.is T) := by
  refine kit_ty ?_
  cases t <;> cases T <;> decide +kernel
theorem tyx_of {g : G} (m : MemOk g) {d : D} {v : V} {t : Ty} (r : Rep g d v) (h : tyOf g.μ d = some t) : TyX g.K g.H v (.type t.nm) := by
  have hT : ∀ {a : Addr} {xs : List V}, g.isT a xs → TyX g.K g.H (.ref a) (.type "tuple") := fun q => by
    rcases q with ⟨q | ⟨o, q⟩, _⟩ | ⟨o, its, n, q, c, _⟩
    · exact .base (.tup q)
    · exact .fTuple q
    · exact .kTuple q c
  have hL : ∀ {a : Addr} {xs : List V}, g.isL a xs → TyX g.K g.H (.ref a) (.type "list") := fun q => by
    rcases q with ⟨q | ⟨o, q⟩, _⟩ | ⟨o, its, n, q, c, _⟩
    · exact .base (.lst q)
    · exact .base (.frz q)
    · exact .kList q c
  have hD : ∀ {a : Addr} {kvs : List (Key × V)}, g.isD a kvs → TyX g.K g.H (.ref a) (.type "dict") := fun q => by
    rcases q with ⟨q | ⟨o, q⟩, _⟩
    · exact .base (.dK q)
    · exact .fDict q
  cases d with
  | non => cases h; cases r; exact .base .non
  | bl b => cases h; cases r; exact .base (.bl b)
  | int i => cases h; cases r; exact .base (.int i)
  | str x => cases h; cases r; exact .base (.str x)
  | tup ds => cases h; obtain ⟨a, xs, rfl, q, _⟩ := r; exact hT q
  | lst ds => cases h; obtain ⟨a, xs, rfl, q, _⟩ := r; exact .base (.lst q.1)
  | sq ds => cases h; obtain ⟨a, xs, rfl, q, _⟩ := r; exact hL q
  | dic ks ds => cases h; obtain ⟨a, xs, rfl, q, _⟩ := r; exact hD q
  | obj n =>
    obtain ⟨a, q, rfl⟩ := r
    unfold tyOf at h
    simp only at h
    split at h
    · rename_i e; cases h; obtain ⟨xs, e1, _⟩ := m.cells n a _ q e; exact .base (.lst e1)
    · rename_i e; cases h; obtain ⟨xs, e1, _⟩ := m.cells n a _ q e; exact .base (.dK e1)
    · rename_i e; cases h; obtain ⟨b, xs, e0, e1, _⟩ := m.cells n a _ q e; cases e0; exact .base (.lst e1.1)
    · rename_i e; cases h; obtain ⟨b, xs, e0, e1, _⟩ := m.cells n a _ q e; cases e0; exact hD e1
    · cases h
  | exn c ks vs => cases h
def fIsI (T : Ty) (a : Sem) : Sem := fun ρ μ => (a ρ μ).bind fun x μ => match tyOf μ x with
  | some t => .ok (.bl (t.is T)) μ
  | none => .bad
def fIsI2 (T U : Ty) (a : Sem) : Sem := fun ρ μ => (a ρ μ).bind fun x μ => match tyOf μ x with
  | some t => .ok (.bl (t.is T || t.is U)) μ
  | none => .bad
section
variable {X : Cx} {F : Fx} {W : WX} {a : Expr} {fa : Sem} {p p1 p2 p3 pos : Pos} {nm nm2 : Str}
theorem se_isi (T : Ty) (hF : F.K = X.K) (hm : X.mg "isinstance" = none) (hmT : X.mg nm = none) (ha : SE X F W a fa) (hv : bootBuiltins nm = some (.type T.nm) := by decide +kernel) (hg : Gl X "isinstance" := by rfl) (hgT : Gl X nm := by rfl) (hb : bootBuiltins "isinstance" = some (.builtin "isinstance") := by decide +kernel)
    (hn : nm ≠ "__name__" := by decide) (hd : (nm == ("__debug__" : Str)) = false := by decide)
    (h1 : starEach [.Name nm p2] X.env = (false, eval (.Name nm p2) X.env) :: starEach [] X.env := by rfl) (h2 : starEach [a, .Name nm p2] X.env = (false, eval a X.env) :: starEach [.Name nm p2] X.env := by rfl) (hpl : (backTo pos (starEach [.Name nm p2] X.env)).any (·.1) = false := by rfl) :
    SE X F W (.Call (.Name "isinstance" p) [a, .Name nm p2] [] pos) (fIsI T fa) :=
  PE.imp (pe_callB call_isi hg hm hb (pa_cons ha (pa_cons (pe_bltn (v := .ty T.nm) hgT hmT hv rfl hn hd) pa_nil h1) h2) (by decide) (by decide) h2 hpl) fun σ H Q h => tW.bind h fun g ρ x v e m w r o => by
    cases ht : tyOf g.μ x with
    | none => simp only [ht] at o; exact o.elim
    | some t =>
      simp only [ht] at o
      exact ⟨v, .ty T.nm, .type t.nm, .type T.nm, t.is T, rfl, .ty _, (fxK e hF) ▸ tyx_of m r ht, kit_Ty t T, o.here m rfl⟩
theorem se_isi2 (T U : Ty) (hF : F.K = X.K) (hm : X.mg "isinstance" = none) (hmT : X.mg nm = none) (hmU : X.mg nm2 = none) (ha : SE X F W a fa) (hv : bootBuiltins nm = some (.type T.nm) := by decide +kernel) (hv2 : bootBuiltins nm2 = some (.type U.nm) := by decide +kernel) (hg : Gl X "isinstance" := by rfl) (hgT : Gl X nm := by rfl) (hgU : Gl X nm2 := by rfl) (hb : bootBuiltins "isinstance" = some (.builtin "isinstance") := by decide +kernel)
    (hn : nm ≠ "__name__" := by decide) (hd : (nm == ("__debug__" : Str)) = false := by decide) (hn2 : nm2 ≠ "__name__" := by decide) (hd2 : (nm2 == ("__debug__" : Str)) = false := by decide) {k : Nat}
    (h0 : starEach [.Name nm2 p3] X.env = (false, eval (.Name nm2 p3) X.env) :: starEach [] X.env := by rfl)
    (h1 : starEach [.Name nm p2, .Name nm2 p3] X.env = (false, eval (.Name nm p2) X.env) :: starEach [.Name nm2 p3] X.env := by rfl)
    (h3 : starEach [.Tuple [.Name nm p2, .Name nm2 p3] k p1] X.env = (false, eval (.Tuple [.Name nm p2, .Name nm2 p3] k p1) X.env) :: starEach [] X.env := by rfl)
    (h2 : starEach [a, .Tuple [.Name nm p2, .Name nm2 p3] k p1] X.env = (false, eval a X.env) :: starEach [.Tuple [.Name nm p2, .Name nm2 p3] k p1] X.env := by rfl) (hpl : (backTo pos (starEach [.Tuple [.Name nm p2, .Name nm2 p3] k p1] X.env)).any (·.1) = false := by rfl) :
    SE X F W (.Call (.Name "isinstance" p) [a, .Tuple [.Name nm p2, .Name nm2 p3] k p1] [] pos) (fIsI2 T U fa) :=
  PE.imp (pe_callB call_isiT hg hm hb (pa_cons ha (pa_cons (pe_tup (pa_cons (pe_bltn (v := .ty T.nm) hgT hmT hv rfl hn hd) (pa_cons (pe_bltn (v := .ty U.nm) hgU hmU hv2 rfl hn2 hd2) pa_nil h0) h1)) pa_nil h3) h2) (by decide) (by decide) h2 hpl) fun σ H Q h => tW.bind h fun g ρ x v e m w r o => by
    cases ht : tyOf g.μ x with
    | none => simp only [ht] at o; exact o.elim
    | some t =>
      simp only [ht] at o
      refine ⟨by rw [sizeLine_eq]; simp, fun p hp => ?_⟩
      have x1 : Ext g (g.put p (.tup [.ty T.nm, .ty U.nm])) := Ext.put hp (m.fresh hp).2.1
      have m1 : MemOk (g.put p (.tup [.ty T.nm, .ty U.nm])) := m.put hp
      refine ⟨v, p, _, .type t.nm, [.type T.nm, .type U.nm], t.is T || t.is U, rfl, upd_same, .cons (.ty _) (.cons (.ty _) .nil), (fxK e hF) ▸ tyx_of m1 (r.mono x1) ht, ?_, ?_⟩
      · refine kitAny_cons (kit_Ty t T) (fun h => ?_) (fun h => by rw [h]; rfl)
        rw [h, Bool.false_or]
        refine kitAny_cons (kit_Ty t U) (fun h => ?_) (fun h => h)
        rw [h]; exact kitAny_nil
      · exact o (g.put p (.tup [.ty T.nm, .ty U.nm])) (.bl _) rfl m1 x1 rfl
end
end Z

namespace Z
open PySem PySem.Spec PyProof.Rows L2

/-! ### list.index, list.count, list.remove, str.join -/
def flatD : D → Bool
  | .non => true | .bl _ => true | .int _ => true | .str _ => true
  | _ => false
def eqF : D → D → Bool
  | .non, .non => true
  | .bl a, .bl b => a == b
  | .bl a, .int b => (if a then 1 else 0) == b
  | .int a, .bl b => a == (if b then 1 else 0)
  | .int a, .int b => a == b
  | .str a, .str b => a == b
  | _, _ => false
theorem flatR {g : G} {d : D} {v : V} (r : Rep g d v) (h : flatD d = true) : flatV v = true := by
  cases d <;> first | (exact absurd h (by decide)) | (cases r; rfl) | cases h
theorem eqF_rep {g : G} {d e : D} {v w : V} (r : Rep g d v) (q : Rep g e w) (h : flatD d = true) (k : flatD e = true) : eqV v w = eqF d e := by
  have hf : ∀ {d : D}, flatD d = true → d = .non ∨ (∃ b, d = .bl b) ∨ (∃ i, d = .int i) ∨ ∃ x, d = .str x := fun {d} h => by
    cases d with
    | non => exact .inl rfl
    | bl b => exact .inr (.inl ⟨b, rfl⟩)
    | int i => exact .inr (.inr (.inl ⟨i, rfl⟩))
    | str x => exact .inr (.inr (.inr ⟨x, rfl⟩))
    | _ => cases h
  rcases hf h with rfl | ⟨_, rfl⟩ | ⟨_, rfl⟩ | ⟨_, rfl⟩ <;> rcases hf k with rfl | ⟨_, rfl⟩ | ⟨_, rfl⟩ | ⟨_, rfl⟩ <;> cases r <;> cases q <;> rfl
def dIndex (x : D) (as : List D) (μ : Mem) : R D := match lstD μ x, as with
  | some ds, [y] => if flatD y = true ∧ ds.all flatD = true then (match ds.findIdx? (fun d => eqF d y) with
    | some j => .ok (.int (j : Nat)) μ
    | none => .bad) else .bad
  | _, _ => .bad
theorem cm_index (x : D) (as : List D) (μ : Mem) : (dIndex x as μ).calm := by
  unfold dIndex
  split
  · split
    · split <;> trivial
    · trivial
  · trivial
theorem flats_rep {g : G} : ∀ {ds : List D} {xs : List V}, RepL g ds xs → ds.all flatD = true → xs.all flatV = true
  | [], _, r, _ => by cases r; rfl
  | d :: ds, _, ⟨v, vs, e, r, t⟩, h => by
    subst e
    rw [List.all_cons, Bool.and_eq_true] at h
    rw [List.all_cons, flatR r h.1, flats_rep t h.2]; rfl
section
variable {X : Cx} {F : Fx}
theorem md_index (hF : F.K = X.K) : MtR X "list.index" (rDM F dIndex) := by
  intro pins s σ H x xs v us Q I rx rxs h
  obtain ⟨g, a, ds, e, rfl, m, ra, rd, o⟩ := h
  have eK := fxK e hF
  unfold dIndex at o
  split at o
  · rename_i es y hl
    split at o
    · rename_i hf
      split at o
      · rename_i j hj
        obtain ⟨p, ys, rfl, q, t⟩ := lstD_rep m ra hl
        obtain ⟨w, rfl, rw'⟩ := one_rep rd
        rw [List.findIdx?_eq_some_iff_getElem] at hj
        obtain ⟨hj1, hj2, hj3⟩ := hj
        obtain ⟨z, hz, rz⟩ := t.get' (get_of_mem hj1)
        have fl : ∀ (i : Nat) (hi : i < es.length), flatD es[i] = true := fun i hi => List.all_eq_true.mp hf.2 _ (List.getElem_mem hi)
        refine mt_index pins s σ g.H _ _ v us Q I rx rxs ⟨p, ys, w, j, z, rfl, rfl, eK ▸ q, flatR rw' hf.1, flats_rep t hf.2, hz, (eqF_rep rz rw' (fl j hj1) hf.1).trans hj2, fun i z' hi hz' => ?_, o.here m rfl⟩
        obtain ⟨d', hd', rd'⟩ := t.get hz'
        have hi2 : i < es.length := (List.getElem?_eq_some_iff.mp hd').1
        rw [get_of_mem hi2] at hd'
        cases hd'
        rw [eqF_rep rd' rw' (fl i hi2) hf.1]
        have := hj3 i hi
        simpa using this
      · exact o.elim
    · exact o.elim
  · exact o.elim
def dJoin (x : D) (as : List D) (μ : Mem) : R D := match x, as with
  | .str a, [y] => (match (lstD μ y).bind strsD with
    | some ys => if (ys.map (·.length)).sum + ys.length * a.length ≤ 16777216 then .ok (.str (Txt.join a ys)) μ else .bad
    | none => .bad)
  | _, _ => .bad
theorem cm_join (x : D) (as : List D) (μ : Mem) : (dJoin x as μ).calm := by
  unfold dJoin
  split
  · split
    · split <;> trivial
    · trivial
  · trivial
theorem md_join (hF : F.K = X.K) : MtR X "str.join" (rDM F dJoin) := by
  intro pins s σ H x xs v us Q I rx rxs h
  obtain ⟨g, a, ds, e, rfl, m, ra, rd, o⟩ := h
  have eK := fxK e hF
  unfold dJoin at o
  split at o
  · rename_i b y
    obtain ⟨w, rfl, rw'⟩ := one_rep rd
    cases ra
    split at o
    · rename_i ys hl
      split at o
      · rename_i hz
        cases h1 : lstD g.μ y with
        | none => rw [h1] at hl; cases hl
        | some es =>
          rw [h1] at hl
          obtain ⟨p, xs, rfl, q, t⟩ := lstD_rep m rw' h1
          have ex := strsD_rep t hl
          subst ex
          exact mt_join pins s σ g.H _ _ v us Q I rx rxs ⟨b, p, ys, rfl, rfl, .inl (eK ▸ q), hz, o.here m rfl⟩
      · exact o.elim
    · exact o.elim
  · exact o.elim
end

/-! ### try .. except C: -/
/-- which classes of ours a class catches -/
structure Cat (K : PySem.W.Frag) (mg : Str → Option Value) (xc : Str → Option Addr) (x : Str) (cat : Str → Option Bool) : Prop where
  ex : ∃ c : Value, mg x = some c ∧ ∀ (cls : Str) (b : Bool) (C : Addr), cat cls = some b → xc cls = some C → PySem.W.exmOne K (.ref C) c = some b
def sTryOnly (cat : Str → Option Bool) (body suite : SemS) : SemS := fun ρ μ => match body ρ μ with
  | .exc e ρ' μ' => (match cat e.cls with
    | some true => suite ρ' μ'
    | some false => .exc e ρ' μ'
    | none => .bad)
  | r => r
section
variable {X : Cx} {F : Fx} {W : WX} {x : Str} {body suite : List Stmt} {b₀ : Stmt} {np pos pos' : Pos} {fb fs : SemS} {cat : Str → Option Bool}
theorem ss_tryOnly (hs : X.stack = X.env :: X.outer) (hf : X.env.frame = some X.env.locals) (hc : Cat X.K X.mg F.xc x cat) (tk : Takes X W)
    (hb : ∀ (W' : WX) (pn : List (Addr × Obj)) (xe : Value → Shared → Prop), Takes (X.tr pn xe) W' → PassesOwn (model X.prog X.w) X.A X.env xe → SSs (X.tr pn xe) F W' body fb)
    (hsu : ∀ (a : Addr) (oe : Obj) (pn : List (Addr × Obj)), (∃ vs, oe.data = .fields vs) → SSs (X.suite a ((a, oe) :: pn)) F W (b₀ :: suite) fs)
    (hg : Gl X x := by rfl) (hd : (x == ("__debug__" : Str)) = false := by decide) :
    SS X F W (.Try body [.ExceptHandler (some (.Name x np)) none (b₀ :: suite) pos'] [] [] pos) (sTryOnly cat fb fs) := by
  obtain ⟨c, hm, hcat⟩ := hc.ex
  refine PS.imp (ps_try_only (tb := fun W' => tS F W' fb) (ts := fun _ _ _ => tS F W fs) (Wout := W) hs hf ⟨hg, hd, .inl hm⟩ tk (fun W' pn xe tk' pass => hb W' pn xe tk' pass) fun a oe cls d pn z hv => hsu a oe pn hv) fun D σ H ⟨g, ρ, e1, e2, m, v, o⟩ => ?_
  refine ⟨g, ρ, e1, e2, m, v, ?_⟩
  unfold sTryOnly at o
  cases hr : fb ρ g.μ with
  | exc e ρ' μ' =>
    rw [hr] at o
    simp only at o
    intro g' σ' C dd em m' x' v' ex
    obtain ⟨c', hc', rfl, rest⟩ := ex
    have fxe : g'.fx = F := x'.fx.trans e1
    cases hk : cat e.cls with
    | none => rw [hk] at o; exact o.elim
    | some b =>
      rw [hk] at o
      have hx2 : F.xc e.cls = some c' := by rw [← fxe]; exact hc'
      refine ⟨b, hcat e.cls b c' hk hx2, fun hb a _ => ?_, fun hb => ?_⟩
      · subst hb
        simp only at o
        exact ⟨g', ρ', fxe, rfl, m', v', by rw [em]; exact OutS.from o x'⟩
      · subst hb
        simp only at o
        exact o g' σ' _ dd em m' x' v' ⟨c', hc', rfl, rest⟩
  | next ρ' μ' => rw [hr] at o; exact o
  | ret d μ' => rw [hr] at o; exact o
  | brk ρ' μ' => rw [hr] at o; exact o
  | cont ρ' μ' => rw [hr] at o; exact o
  | bad => rw [hr] at o; exact o.elim
end
end Z

namespace Z
open PySem PySem.Spec PyProof.Rows L2

/-! ### from a body's end to what is told: new cells are forgotten -/
def cleanD (μ0 : Mem) (r : RS) : R D := match r with
  | .ret d μ' => if μ'.length = μ0.length then .ok d μ' else
      if μ0.length ≤ μ'.length ∧ (μ'.take μ0.length).all (Cell.below μ0.length) = true ∧ D.lo μ0.length d = true then .ok d (μ'.take μ0.length) else .bad
  | .next _ μ' => if μ'.length = μ0.length then .ok .non μ' else
      if μ0.length ≤ μ'.length ∧ (μ'.take μ0.length).all (Cell.below μ0.length) = true then .ok .non (μ'.take μ0.length) else .bad
  | .exc e _ μ' => if μ'.length = μ0.length then .exc e μ' else
      if μ0.length ≤ μ'.length ∧ (μ'.take μ0.length).all (Cell.below μ0.length) = true ∧ Exl μ0.length e = true then .exc e (μ'.take μ0.length) else .bad
  | _ => .bad
/-- .. new cells are kept -/
def keepD (μ0 : Mem) (r : RS) : R D := match r with
  | .ret d μ' => if μ0.length ≤ μ'.length then .ok d μ' else .bad
  | .next _ μ' => if μ0.length ≤ μ'.length then .ok .non μ' else .bad
  | .exc e _ μ' => if μ0.length ≤ μ'.length then .exc e μ' else .bad
  | _ => .bad
theorem Tr.clean {μ0 μ' : Mem} (h : μ0.length ≤ μ'.length) (b : (μ'.take μ0.length).all (Cell.below μ0.length) = true) : Tr μ0 μ' (μ'.take μ0.length) := by
  have hl : (μ'.take μ0.length).length = μ0.length := by rw [List.length_take]; omega
  refine ⟨by rw [hl]; exact Nat.le_refl _, by rw [hl], .inr fun i c q => .inr ?_⟩
  rw [hl]
  exact List.all_eq_true.mp b c (List.mem_of_getElem? q)
theorem cleanD_ref (μ0 : Mem) (r : RS) : Ref μ0 (cleanD μ0 r) r := by
  have hl : ∀ μ' : Mem, μ0.length ≤ μ'.length → (μ'.take μ0.length).length = μ0.length := fun μ' h => by rw [List.length_take]; omega
  cases r with
  | ret d μ' =>
    show Ref μ0 (if _ then _ else _) _
    split
    · rename_i h; exact .ret (Tr.refl (by omega)) (.inl rfl)
    · split
      · rename_i h; exact .ret (Tr.clean h.1 h.2.1) (.inr (by rw [hl _ h.1]; exact h.2.2))
      · exact .bad
  | next ρ μ' =>
    show Ref μ0 (if _ then _ else _) _
    split
    · rename_i h; exact .nx (Tr.refl (by omega))
    · split
      · rename_i h; exact .nx (Tr.clean h.1 h.2)
      · exact .bad
  | exc e ρ μ' =>
    show Ref μ0 (if _ then _ else _) _
    split
    · rename_i h; exact .exc (Tr.refl (by omega)) (.inl rfl)
    · split
      · rename_i h; exact .exc (Tr.clean h.1 h.2.1) (.inr (by rw [hl _ h.1]; exact h.2.2))
      · exact .bad
  | brk ρ μ' => exact .bad
  | cont ρ μ' => exact .bad
  | bad => exact .bad
theorem keepD_ref (μ0 : Mem) (r : RS) : Ref μ0 (keepD μ0 r) r := by
  cases r with
  | ret d μ' =>
    show Ref μ0 (if _ then _ else _) _
    split
    · rename_i h; exact .ret (Tr.refl h) (.inl rfl)
    · exact .bad
  | next ρ μ' =>
    show Ref μ0 (if _ then _ else _) _
    split
    · rename_i h; exact .nx (Tr.refl h)
    · exact .bad
  | exc e ρ μ' =>
    show Ref μ0 (if _ then _ else _) _
    split
    · rename_i h; exact .exc (Tr.refl h) (.inl rfl)
    · exact .bad
  | brk ρ μ' => exact .bad
  | cont ρ μ' => exact .bad
  | bad => exact .bad
/-- the def of a body: N slots -/
def dfn (N : Nat) (b : SemS) : DFn := fun ds μ => cleanD μ (b (startD N ds) μ)
def dfk (N : Nat) (b : SemS) : DFn := fun ds μ => keepD μ (b (startD N ds) μ)
section
variable {P : Program} {w : World} {K : PySem.W.Frag} {mg : Str → Option Value} {base : Heap} {x qual : Str} {st : Stmt} {f : Addr} {fd : FuncData} {N ps : List Str} {k n : Nat} {F : Fx} {b : SemS}
theorem cal_dfn (hm : mg x = some (.ref f)) (Fn : Fun K x qual st f fd) (hb : Binds K fd ps []) (sc : FnScope N ps (defScope st)) (hn : ps.length = n)
    (body : ∀ (cdv : Value) (A : Around) (outer : List PySem.Env) (s : Shared) (H : Hp) (E : XK), Room k (A.deeper (envOfC qual (defScope st) s.heap.objs.size f cdv)) → SSs (cxOf (L2.CX P w) P w K mg base N qual (defScope st) f cdv A outer s H E) F (fun c d _ H' => E c d H') (defBody st) b) : Cal P w K mg base F (k + 1) x n [] (dfn N.length b) :=
  ⟨f, fd, ps, [], [], fnD Fn sc hn body fun ds μ _ => cleanD_ref μ _, hm, Fn.kp, hb, .nil, fun _ => RepL.nil⟩
theorem cal_dfk (hm : mg x = some (.ref f)) (Fn : Fun K x qual st f fd) (hb : Binds K fd ps []) (sc : FnScope N ps (defScope st)) (hn : ps.length = n)
    (body : ∀ (cdv : Value) (A : Around) (outer : List PySem.Env) (s : Shared) (H : Hp) (E : XK), Room k (A.deeper (envOfC qual (defScope st) s.heap.objs.size f cdv)) → SSs (cxOf (L2.CX P w) P w K mg base N qual (defScope st) f cdv A outer s H E) F (fun c d _ H' => E c d H') (defBody st) b) : Cal P w K mg base F (k + 1) x n [] (dfk N.length b) :=
  ⟨f, fd, ps, [], [], fnD Fn sc hn body fun ds μ _ => keepD_ref μ _, hm, Fn.kp, hb, .nil, fun _ => RepL.nil⟩
theorem Cal.up {L L' : Nat} {dds : List D} {S : DFn} (c : Cal P w K mg base F L x n dds S) (h : L = L') : Cal P w K mg base F L' x n dds S := h ▸ c
end
/-! ### a context's common facts -/
structure Ctb (X : Cx) (F : Fx) (W : WX) (L : Nat) : Prop where
  k : F.K = X.K
  r : Room L X.A
  n : X.N.Nodup
  c : X.calm = true
  t : Takes X W
structure Ctx (X : Cx) (F : Fx) (W : WX) (L : Nat) : Prop extends Ctb X F W L where
  p : PassesOwn (model X.prog X.w) X.A X.env X.xe
  s : X.stack = X.env :: X.outer
  f : X.env.frame = some X.env.locals
theorem Ctb.u {X : Cx} {F : Fx} {W : WX} {L : Nat} (c : Ctb X F W L) : X.A.units + 70 < cLine := by have := c.r.un; omega
theorem Ctx.u {X : Cx} {F : Fx} {W : WX} {L : Nat} (c : Ctx X F W L) : X.A.units + 70 < cLine := by have := c.r.un; omega
theorem Ctb.blk {X : Cx} {F : Fx} {W : WX} {L : Nat} (c : Ctb X F W L) (s : Shared) (H : Hp) {scope : Scope} (C : Addr) (cl : List (Str × Addr)) (fp : List Addr) : Ctb (X.blk s H scope (compEnvC scope cl C X.env) fp) F W0 L := ⟨c.k, c.r, c.n, c.c, takes0⟩
section
variable {X : Cx} {F : Fx} {W : WX} {L : Nat} {s : Shared} {H : Hp} {scope : Scope} {A : Addr} {cl : List (Str × Addr)} {fp : List Addr}
theorem Ctb.bG {tg : Expr} {a : Tgt} {vs : List Nat} (c : Ctb X F W L) (k : Ctb (X.blk s H scope (compEnvC scope cl A X.env) fp) F W0 L → SGw (X.blk s H scope (compEnvC scope cl A X.env) fp) F tg a vs) : SGw (X.blk s H scope (compEnvC scope cl A X.env) fp) F tg a vs := k (c.blk s H A cl fp)
theorem Ctb.bT {ifs : List Expr} {t : SemT} (c : Ctb X F W L) (k : Ctb (X.blk s H scope (compEnvC scope cl A X.env) fp) F W0 L → SPt (X.blk s H scope (compEnvC scope cl A X.env) fp) F W0 ifs t) : SPt (X.blk s H scope (compEnvC scope cl A X.env) fp) F W0 ifs t := k (c.blk s H A cl fp)
theorem Ctb.bE {e : Expr} {f : Sem} (c : Ctb X F W L) (k : Ctb (X.blk s H scope (compEnvC scope cl A X.env) fp) F W0 L → SE (X.blk s H scope (compEnvC scope cl A X.env) fp) F W0 e f) : SE (X.blk s H scope (compEnvC scope cl A X.env) fp) F W0 e f := k (c.blk s H A cl fp)
end
theorem Ctx.tr {X : Cx} {F : Fx} {W W' : WX} {L : Nat} {pn : List (Addr × Obj)} {xe : Value → Shared → Prop} (c : Ctx X F W L) (tk : Takes (X.tr pn xe) W') (ps : PassesOwn (model X.prog X.w) X.A X.env xe) : Ctx (X.tr pn xe) F W' L := ⟨⟨c.k, c.r, c.n, c.c, tk⟩, ps, c.s, c.f⟩
theorem ctx_of {P : Program} {w : World} {K : PySem.W.Frag} {mg : Str → Option Value} {base : Heap} {N : List Str} {qual : Str} {sc : Scope} {f : Addr} {cdv : Value} {A : Around} {outer : List PySem.Env} {s : Shared} {H : Hp} {E : XK} {F : Fx} {L : Nat} (hF : F.K = K) (hN : N.Nodup) (hr : Room L (A.deeper (envOfC qual sc s.heap.objs.size f cdv))) :
    Ctx (cxOf (L2.CX P w) P w K mg base N qual sc f cdv A outer s H E) F (fun c d _ H' => E c d H') L :=
  ⟨⟨hF, hr, hN, rfl, L2.takes_of rfl rfl rfl rfl⟩, L2.passes_of (X := cxOf (L2.CX P w) P w K mg base N qual sc f cdv A outer s H E) rfl, rfl, rfl⟩
/-- the address of a class of the module -/
def xcOf (mg : Str → Option Value) (c : Str) : Option Addr := match mg c with
  | some (.ref a) => some a
  | _ => none
theorem xcOf_of {mg : Str → Option Value} {c : Str} {a : Addr} (h : mg c = some (.ref a)) : xcOf mg c = some a := by unfold xcOf; rw [h]
theorem con_str {mg : Str → Option Value} {x s : Str} {u : Value} (h : mg x = some u) (r : RelV (.str s) u) : Con1 mg x (.str s) := ⟨.str s, u, h, r, fun _ => rfl⟩
theorem con_int {mg : Str → Option Value} {x : Str} {i : Int} {u : Value} (h : mg x = some u) (r : RelV (.int i) u) : Con1 mg x (.int i) := ⟨.int i, u, h, r, fun _ => rfl⟩
section
variable {X : Cx} {F : Fx} {W : WX} {L : Nat} {e o : Expr} {es : List Expr} {fo : Sem} {f : SemA} {t : SemT} {a : Expr} {apos cpos pos : Pos}
theorem se_notV (h : SE X F W a fo) (hF : F.K = X.K) : SE X F W (.UnaryOp .Not a pos) (fNot (fTru fo)) :=
  PE.imp (pe_notT h) fun σ H Q ⟨g, ρ, e1, e2, m, v, o⟩ => by
    refine ⟨g, ρ, e1, e2, m, v, ?_⟩
    unfold fNot fTru at o
    revert o
    cases fo ρ g.μ with
    | ok d μ =>
      intro o g1 x em m1 x1 r1
      have eK : g1.K = X.K := (fxK (x1.fx.trans e1) hF)
      cases ht : truD μ d with
      | none =>
        have o' : Out Rep (fun c d H' => W c d σ H') g ((R.ofP μ (truD μ d)).bind fun k μ => R.ok (D.bl (!k)) μ) Q := o
        rw [ht] at o'; exact o'.elim
      | some k =>
        have o' : Out Rep (fun c d H' => W c d σ H') g ((R.ofP μ (truD μ d)).bind fun k μ => R.ok (D.bl (!k)) μ) Q := o
        rw [ht] at o'
        exact ⟨k, eK ▸ truD_ok m1 r1 (by rw [em]; exact ht), o' g1 (.bl (!k)) em m1 x1 rfl⟩
    | exc e μ => exact fun o => o
    | bad => exact fun o => o
end
end Z

namespace Z
open PySem PySem.Spec PyProof.Rows L2

/-! ### the law -/
def spLawZ (K : PySem.W.Frag) : Sp := fun vs H Q _ => ∃ (a : Addr) (ns : List Int), vs = [.ref a] ∧ ns.length ≤ 63 ∧ (∀ z ∈ ns, Builtin.Int.intBits z ≤ 1048576) ∧ SqL K H a (ns.map V.int) ∧ ∀ H', Q (.bl true) H'
theorem FnOk.law {P : Program} {w : World} {K : PySem.W.Frag} {mg : Str → Option Value} {base : Heap} {k : Nat} {f : Addr} {fd : FuncData} {ps : List Str} {F : Fx} {S : DFn} (hK : F.K = K) (hxo : F.xo = none) (h : FnOk P w K mg base (L2.CX P w) k f fd ps (spD F 1 S))
    (hS : ∀ ns : List Int, ns.length ≤ 63 → (∀ z ∈ ns, Builtin.Int.intBits z ≤ 1048576) → ∃ μ, S [.sq (ns.map D.int)] [] = .ok (.bl true) μ) : FnOk P w K mg base (L2.CX P w) k f fd ps (spLawZ K) := by
  refine FnOk.imp h fun vs H Q E ⟨a, ns, e, hl, hb, hs, q⟩ => ?_
  subst e
  let g : G := { K := F.K, H := H, α := [], μ := [], ex := [], cl := F.cl, xc := F.xc, xo := F.xo }
  have nP : ∀ b, ¬ g.P b := fun b z => by
    rcases z with ⟨n, c, x, _, _⟩ | z
    · have x' : ([] : List Addr)[n]? = some b := x
      simp at x'
    · exact absurd (show b ∈ ([] : List Addr) from z) (by simp)
  have m : MemOk g := ⟨rfl, List.nodup_nil, fun a ha => absurd (show a ∈ ([] : List Addr) from ha) (by simp), fun a ha => absurd (show a ∈ ([] : List Addr) from ha) (by simp), fun n a c x _ => by
    have x' : ([] : List Addr)[n]? = some a := x
    simp at x'⟩
  have r : RepL g [.sq (ns.map D.int)] [.ref a] := by
    refine RepL.cons ⟨a, ns.map V.int, rfl, ?_, rep_ints ns⟩ RepL.nil
    rcases hs with hs | hs
    · exact .inl ⟨hs, nP a⟩
    · refine .inr ?_
      show KL F.K a _
      rw [hK]; exact hs
  obtain ⟨μ, e⟩ := hS ns hl hb
  refine ⟨g, _, rfl, rfl, m, r, rfl, ?_⟩
  show Out Rep E g (S [.sq (ns.map D.int)] []) Q
  rw [e]
  intro g' b _ _ _ rb
  have rb' : b = .bl true := rb
  subst rb'
  exact q g'.H
theorem walkZ {l : PySem.W.OpenLaw} {k : Nat} {q : Program} {loose : List Str} {XP : (Str → Option Value) → Heap → Prop} {YP : World → Heap → Prop} {d : DefRec} {K : Params → PySem.W.Frag} (hn : l.most = some 63) (hdf : d.params.defaults = []) (hr : Room k callerA)
    (hY : ∀ (w : World) (h : Heap), YP w h → (K w.params).In h)
    (F : ∀ (w : World) (mg : Str → Option Value) (fa : Addr) (h : Heap), (K w.params).In h → h.Ns mainGlobals mg → mg d.name = some (.ref fa) →
      ∃ fd : FuncData, (∀ (s : Shared) (u : Value), BindsTo s fd ⟨[u], []⟩ [("script", u)]) ∧
        ∀ base : Heap, (K w.params).In base → base.Ns mainGlobals mg → FnOk l.prog w (K w.params) mg base (L2.CX l.prog w) k fa fd ["script"] (spLawZ (K w.params))) :
    PySem.W.WalkO q loose XP YP l.row.toRowW d [] (fun f vs => PySem.call f vs) :=
  L2.walk_ofB (n := 63) (k := k) (x := "script") (CX := fun w => L2.CX l.prog w) (sp := fun w => spLawZ (K w.params)) hn (by decide) hdf hr hY F (fun _ _ a ns hl hb _ hS => ⟨a, ns, rfl, hl, hb, hS, fun _ => rfl⟩) fun _ _ _ _ _ ⟨_, _, _, _, _, _, _, _, _, _, _, _, z⟩ => z
end Z

namespace Z
open PySem PySem.Spec PyProof.Rows L2

/-! ### plain reckoning -/
theorem bind_ok {α β : Type} (a : α) (μ : Mem) (k : α → Mem → R β) : (R.ok a μ).bind k = k a μ := rfl
theorem bind_exc {α β : Type} (e : Ex) (μ : Mem) (k : α → Mem → R β) : (R.exc e μ).bind k = .exc e μ := rfl
theorem s_ok {α : Type} (a : α) (μ : Mem) (ρ : Env) (k : α → Mem → RS) : (R.ok a μ).s ρ k = k a μ := rfl
theorem s_exc {α : Type} (e : Ex) (μ : Mem) (ρ : Env) (k : α → Mem → RS) : (R.exc (α := α) e μ).s ρ k = .exc e ρ μ := rfl
theorem ofP_some {α : Type} (μ : Mem) (a : α) : R.ofP μ (some a) = .ok a μ := rfl
theorem then_next (ρ : Env) (μ : Mem) (k : SemS) : (RS.next ρ μ).then k = k ρ μ := rfl
theorem then_ret (d : D) (μ : Mem) (k : SemS) : (RS.ret d μ).then k = .ret d μ := rfl
theorem then_exc (e : Ex) (ρ : Env) (μ : Mem) (k : SemS) : (RS.exc e ρ μ).then k = .exc e ρ μ := rfl
theorem bindB_ok' {α β : Type} (a : α) (μ : Mem) (k : α → Mem → R β) : (R.ok a μ).bindB k = k a μ := rfl
theorem clean_ret (μ : Mem) (d : D) : cleanD μ (.ret d μ) = .ok d μ := by simp [cleanD]
theorem clean_ret' {μ μ' : Mem} (d : D) (h : μ'.length = μ.length) : cleanD μ (.ret d μ') = .ok d μ' := by simp [cleanD, h]
theorem clean_next' {μ μ' : Mem} (ρ : Env) (h : μ'.length = μ.length) : cleanD μ (.next ρ μ') = .ok .non μ' := by simp [cleanD, h]
theorem clean_exc (μ : Mem) (e : Ex) (ρ : Env) : cleanD μ (.exc e ρ μ) = .exc e μ := by simp [cleanD]
theorem take_app {μ ex : Mem} : (μ ++ ex).take μ.length = μ := by simp
theorem clean_app {μ ex : Mem} (d : D) (hb : μ.all (Cell.below μ.length) = true) (hd : D.lo μ.length d = true) : cleanD μ (.ret d (μ ++ ex)) = .ok d μ := by
  unfold cleanD
  by_cases h : (μ ++ ex).length = μ.length
  · have : ex = [] := by cases ex with | nil => rfl | cons a b => simp at h
    subst this; simp
  · simp only [h, if_false, take_app]
    rw [if_pos ⟨by simp, hb, hd⟩]
section
variable {α : Type} {gd : Grd} {a : Tgt} {t : SemT} {e : Sem} {b : SemS} {ρ : Env} {μ : Mem}
theorem lcL_map (toD : α → D) (p : α → Bool) (f : α → D) (hg : gd.ok μ) : ∀ xs : List α, (∀ x ∈ xs, ∃ ρ1, a (toD x) ρ = some ρ1 ∧ t ρ1 μ = .ok (p x) μ ∧ (p x = true → e ρ1 μ = .ok (f x) μ)) → lcL gd a t e ρ (xs.map toD) μ = .ok ((xs.filter p).map f) μ
  | [], _ => rfl
  | x :: xs, h => by
    obtain ⟨ρ1, h1, h2, h3⟩ := h x List.mem_cons_self
    have ih := lcL_map toD p f hg xs fun y hy => h y (List.mem_cons_of_mem _ hy)
    simp only [List.map_cons, lcL, h1, h2, R.bindB, lcG, if_pos hg]
    by_cases hp : p x = true
    · simp only [hp, if_true, h3 hp, R.bindB, ih, if_pos hg, List.filter_cons_of_pos, List.map_cons]
    · simp only [hp, if_false, ih, List.filter_cons_of_neg (by simpa using hp)]
      simp
theorem lcL_yes (toD : α → D) (f : α → D) (hg : gd.ok μ) (xs : List α) (h : ∀ x ∈ xs, ∃ ρ1, a (toD x) ρ = some ρ1 ∧ e ρ1 μ = .ok (f x) μ) : lcL gd a tYes e ρ (xs.map toD) μ = .ok (xs.map f) μ := by
  have := lcL_map (t := tYes) toD (fun _ => true) f hg xs fun x hx => by
    obtain ⟨ρ1, h1, h2⟩ := h x hx
    exact ⟨ρ1, h1, rfl, fun _ => h2⟩
  rw [this, List.filter_eq_self.mpr (fun _ _ => rfl)]
theorem forL_inv (toD : α → D) (I : List α → Env → Mem → Prop) : ∀ (xs : List α) {ρ : Env} {μ : Mem}, I xs ρ μ → (∀ x rest ρ μ, I (x :: rest) ρ μ → ∃ ρ1, a (toD x) ρ = some ρ1 ∧ ∃ ρ2 μ2, b ρ1 μ = .next ρ2 μ2 ∧ gd.ok μ2 ∧ I rest ρ2 μ2) →
    ∃ ρ' μ', forL gd a b (xs.map toD) ρ μ = .next ρ' μ' ∧ I [] ρ' μ'
  | [], ρ, μ, h0, _ => ⟨ρ, μ, rfl, h0⟩
  | x :: xs, ρ, μ, h0, hs => by
    obtain ⟨ρ1, h1, ρ2, μ2, h2, h3, h4⟩ := hs x xs ρ μ h0
    obtain ⟨ρ', μ', h5, h6⟩ := forL_inv toD I xs h4 hs
    refine ⟨ρ', μ', ?_, h6⟩
    simp only [List.map_cons, forL, h1, h2, forG, if_pos h3, h5]
end
/-- ints from a to b -/
theorem rangeD_nat (n : Nat) : rangeD 0 (n : Int) = (List.range n).map fun (i : Nat) => D.int (i : Int) := by
  unfold rangeD
  simp
theorem atI_nat {α : Type} {xs : List α} {k : Nat} {x : α} (h : xs[k]? = some x) : atI xs (k : Int) = some x := by
  have hk := (List.getElem?_eq_some_iff.mp h).1
  have e : ixN xs.length (k : Int) = some k := by
    unfold ixN
    simp
    omega
  unfold atI
  rw [e]
  exact h
theorem atI_last {α : Type} {xs : List α} {x : α} (h : xs.getLast? = some x) : atI xs (-1) = some x := by
  have hne : xs ≠ [] := by intro z; subst z; cases h
  have hl : 0 < xs.length := List.length_pos_iff.mpr hne
  have e : ixN xs.length (-1) = some (xs.length - 1) := by
    unfold ixN
    simp
    omega
  unfold atI
  rw [e]
  rw [List.getLast?_eq_getElem?] at h
  exact h
theorem ix_tup (ds : List D) (i : Int) (μ : Mem) : dIx (.tup ds) (.int i) μ = R.ofP μ (atI ds i) := rfl
theorem ix_lst (ds : List D) (i : Int) (μ : Mem) : dIx (.lst ds) (.int i) μ = R.ofP μ (atI ds i) := rfl
theorem ix_sq (ds : List D) (i : Int) (μ : Mem) : dIx (.sq ds) (.int i) μ = R.ofP μ (atI ds i) := rfl
theorem ix_obj {n : Nat} {ds : List D} {μ : Mem} (i : Int) (h : μ[n]? = some (.lst ds)) : dIx (.obj n) (.int i) μ = R.ofP μ (atI ds i) := by
  show (match lstD μ (.obj n) with | some ds => _ | none => _) = _
  have : lstD μ (.obj n) = some ds := by simp [lstD, h]
  rw [this]
theorem at0 {α : Type} (a : α) (l : List α) : atI (a :: l) 0 = some a := atI_nat (k := 0) rfl
theorem at1 {α : Type} (a b : α) (l : List α) : atI (a :: b :: l) 1 = some b := atI_nat (k := 1) rfl
theorem at2 {α : Type} (a b c : α) (l : List α) : atI (a :: b :: c :: l) 2 = some c := atI_nat (k := 2) rfl
theorem at3 {α : Type} (a b c d : α) (l : List α) : atI (a :: b :: c :: d :: l) 3 = some d := atI_nat (k := 3) rfl
theorem len_lst (ds : List D) (μ : Mem) : dLen [.lst ds] μ = .ok (.int ds.length) μ := rfl
theorem len_sq (ds : List D) (μ : Mem) : dLen [.sq ds] μ = .ok (.int ds.length) μ := rfl
theorem len_obj {n : Nat} {ds : List D} {μ : Mem} (h : μ[n]? = some (.lst ds)) : dLen [.obj n] μ = .ok (.int ds.length) μ := by
  have : lstD μ (.obj n) = some ds := by simp [lstD, h]
  simp [dLen, dLen1, this, R.ofP]
end Z
namespace Z
open PySem PySem.Spec PyProof.Rows
mutual
theorem py_can : ∀ d : D, d.py.plain = true
  | .non => rfl
  | .bl _ => rfl
  | .int _ => rfl
  | .str _ => rfl
  | .tup ds => by simp only [D.py, PyData.plain]; exact pys_can ds
  | .lst ds => by simp only [D.py, PyData.plain]; exact pys_can ds
  | .sq ds => by simp only [D.py, PyData.plain]; exact pys_can ds
  | .dic _ _ => rfl
  | .obj _ => rfl
  | .exn _ _ _ => rfl
theorem pys_can : ∀ ds : List D, PyData.plainAll (D.pys ds) = true
  | [] => rfl
  | d :: ds => by simp only [D.pys, PyData.plainAll, py_can d, pys_can ds]; rfl
end
theorem eqb_refl (d : D) : D.eqb d d = true := PySem.SeqAt.eqv_refl_plain _ (py_can d)
/-- a tree: no handle at its head -/
def D.isT : D → Bool
  | .obj _ => false
  | _ => true
theorem res_tree {d : D} (h : d.isT = true) (μ : Mem) : resD μ d = d := by cases d <;> first | rfl | cases h
theorem dEq_refl {d : D} (h : d.isT = true) (f : D.fit 9 d = true) (μ : Mem) : dEq d d μ = some true := by
  unfold dEq
  rw [res_tree h, if_pos ⟨f, f⟩, eqb_refl]
theorem dNe_refl {d : D} (h : d.isT = true) (f : D.fit 9 d = true) (μ : Mem) : dNe d d μ = some false := by
  unfold dNe
  rw [dEq_refl h f]; rfl
mutual
theorem fit_up : ∀ {n : Nat} (d : D), D.fit n d = true → D.fit (n + 1) d = true
  | _, .non, _ => by simp [D.fit]
  | _, .bl _, _ => by simp [D.fit]
  | _, .int _, _ => by simp [D.fit]
  | _, .str _, _ => by simp [D.fit]
  | 0, .tup _, h => by simp [D.fit] at h
  | 0, .lst _, h => by simp [D.fit] at h
  | 0, .sq _, h => by simp [D.fit] at h
  | n + 1, .tup ds, h => by simp only [D.fit] at h ⊢; exact fits_up ds h
  | n + 1, .lst ds, h => by simp only [D.fit] at h ⊢; exact fits_up ds h
  | n + 1, .sq ds, h => by simp only [D.fit] at h ⊢; exact fits_up ds h
  | _, .dic _ _, h => by simp [D.fit] at h
  | _, .obj _, h => by simp [D.fit] at h
  | _, .exn _ _ _, h => by simp [D.fit] at h
theorem fits_up : ∀ {n : Nat} (ds : List D), D.fits n ds = true → D.fits (n + 1) ds = true
  | _, [], _ => by simp [D.fits]
  | n, d :: ds, h => by
    simp only [D.fits, Bool.and_eq_true] at h ⊢
    exact ⟨fit_up d h.1, fits_up ds h.2⟩
end
theorem fit_le {n m : Nat} {d : D} (h : D.fit n d = true) (l : n ≤ m) : D.fit m d = true := by
  induction l with
  | refl => exact h
  | step _ ih => exact fit_up d ih
theorem fits_map {α : Type} {n : Nat} (f : α → D) (xs : List α) (h : ∀ x ∈ xs, D.fit n (f x) = true) : D.fits n (xs.map f) = true := by
  rw [D.fits_all, List.all_eq_true]
  intro d hd
  obtain ⟨x, hx, rfl⟩ := List.mem_map.mp hd
  exact h x hx
theorem fit_lst {n : Nat} {ds : List D} (h : D.fits n ds = true) : D.fit (n + 1) (.lst ds) = true := by simp only [D.fit]; exact h
theorem eqb_int (i j : Int) : D.eqb (.int i) (.int j) = decide (i = j) := by
  unfold D.eqb
  simp only [D.py, PyData.eqv]
  by_cases h : i = j
  · subst h; simp
  · simp [h]
theorem eqb_str (i j : Str) : D.eqb (.str i) (.str j) = decide (i = j) := by
  unfold D.eqb
  simp only [D.py, PyData.eqv]
  by_cases h : i = j
  · subst h; simp
  · simp [h]
theorem dEq_int (i j : Int) (μ : Mem) : dEq (.int i) (.int j) μ = some (decide (i = j)) := by
  unfold dEq
  simp [resD, D.fit, eqb_int]
theorem dEq_str (i j : Str) (μ : Mem) : dEq (.str i) (.str j) μ = some (decide (i = j)) := by
  unfold dEq
  simp [resD, D.fit, eqb_str]
theorem dNe_int (i j : Int) (μ : Mem) : dNe (.int i) (.int j) μ = some (!decide (i = j)) := by
  unfold dNe; rw [dEq_int]; rfl
theorem eqb_nil (ds : List D) : D.eqb (.lst ds) (.lst []) = ds.isEmpty := by
  unfold D.eqb
  cases ds with
  | nil => simp [D.py, D.pys, PyData.eqv, PyData.eqvAll]
  | cons d ds => simp [D.py, D.pys, PyData.eqv, PyData.eqvAll]
theorem dEq_nil {ds : List D} (h : D.fits 8 ds = true) (μ : Mem) : dEq (.lst ds) (.lst []) μ = some ds.isEmpty := by
  unfold dEq
  rw [if_pos ⟨by simp only [resD, D.fit]; exact h, by simp [resD, D.fit, D.fits]⟩]
  show some (D.eqb (.lst ds) (.lst [])) = _
  rw [eqb_nil]
section
variable {α : Type} {i : SemI} {a : Tgt} {t : SemT} {e : Sem} {own : List Nat} {ρ : Env} {μ : Mem} {gd : Grd}
theorem fLc_map (toD : α → D) (p : α → Bool) (f : α → D) {xs : List α} (hi : i ρ μ = .ok ⟨xs.map toD, gd⟩ μ) (hg : gd.ok μ) (hl : xs.length ≤ sizeLine)
    (h : ∀ x ∈ xs, ∃ ρ1, a (toD x) (wipeD ρ own) = some ρ1 ∧ t ρ1 μ = .ok (p x) μ ∧ (p x = true → e ρ1 μ = .ok (f x) μ)) : fLc i a t e own ρ μ = .ok ((xs.filter p).map f) μ := by
  unfold fLc
  rw [hi, bind_ok, if_pos (by simpa using hl)]
  exact lcL_map toD p f hg xs h
theorem fLc_yes (toD : α → D) (f : α → D) {xs : List α} (hi : i ρ μ = .ok ⟨xs.map toD, gd⟩ μ) (hg : gd.ok μ) (hl : xs.length ≤ sizeLine)
    (h : ∀ x ∈ xs, ∃ ρ1, a (toD x) (wipeD ρ own) = some ρ1 ∧ e ρ1 μ = .ok (f x) μ) : fLc i a tYes e own ρ μ = .ok (xs.map f) μ := by
  unfold fLc
  rw [hi, bind_ok, if_pos (by simpa using hl)]
  exact lcL_yes toD f hg xs h
end
theorem sl1000 {n : Nat} (h : n ≤ 1000) : n ≤ sizeLine := by rw [sizeLine_eq]; omega
end Z
namespace Z
open PySem PySem.Spec PyProof.Rows
section
variable (ρ : Env) (μ : Mem) (i j : Int) (x y : Str) (ds es : List D)
theorem fIx_eq (a b : Sem) : fIx a b ρ μ = (a ρ μ).bind fun x μ => (b ρ μ).bind fun y μ => dIx x y μ := rfl
theorem add_int : dAdd (.int i) (.int j) μ = .ok (.int (i + j)) μ := rfl
theorem sub_int : dSub (.int i) (.int j) μ = .ok (.int (i - j)) μ := rfl
theorem neg_int : dNeg (.int i) μ = .ok (.int (-i)) μ := rfl
theorem lt_int : dLt (.int i) (.int j) μ = some (decide (i < j)) := rfl
theorem gt_int : dGt (.int i) (.int j) μ = some (decide (j < i)) := rfl
theorem le_int : dLe (.int i) (.int j) μ = some (decide (i ≤ j)) := rfl
theorem ge_int : dGe (.int i) (.int j) μ = some (decide (j ≤ i)) := rfl
theorem tru_bl (b : Bool) : truD μ (.bl b) = some b := rfl
theorem tru_lst : truD μ (.lst ds) = some (!ds.isEmpty) := rfl
theorem tru_int : truD μ (.int i) = some (i != 0) := rfl
theorem wk_l : wkD (.lst ds) μ = some ⟨ds, none⟩ := rfl
theorem wk_t : wkD (.tup ds) μ = some ⟨ds, none⟩ := rfl
theorem wk_s : wkD (.sq ds) μ = some ⟨ds, none⟩ := rfl
theorem wk_o {n : Nat} {ds : List D} (h : μ[n]? = some (.lst ds)) : wkD (.obj n) μ = some ⟨ds, some (n, .lst ds)⟩ := by simp [wkD, h]
theorem int_int : dInt [.int i] μ = .ok (.int i) μ := rfl
theorem max_int : dMax2 [.int i, .int j] μ = .ok (.int (max i j)) μ := rfl
theorem min_int : dMin2 [.int i, .int j] μ = .ok (.int (min i j)) μ := rfl
theorem rg_nat {n : Nat} (h : n < 2 ^ 62) : rg62 (n : Int) := ⟨by omega, by omega⟩
theorem is_non : dIs .non .non μ = some true := rfl
theorem is_non_int : dIs (.int i) .non μ = some false := rfl
theorem is_non_lst : dIs (.lst ds) .non μ = some false := rfl
theorem isn_non : dIsNot .non .non μ = some false := rfl
theorem isn_lst : dIsNot (.lst ds) .non μ = some true := rfl
theorem isn_int : dIsNot (.int i) .non μ = some true := rfl
theorem isi_int (T : Ty) : tyOf μ (.int i) = some .int := rfl
theorem isi_bl (b : Bool) : tyOf μ (.bl b) = some .bl := rfl
theorem list_l : dList [.lst ds] μ = .ok ds μ := rfl
theorem list_s : dList [.sq ds] μ = .ok ds μ := rfl
theorem list_t : dList [.tup ds] μ = .ok ds μ := rfl
end
end Z
namespace Z
open PySem PySem.Spec
theorem iRg1_eq {a : Sem} {ρ : Env} {μ μ' : Mem} {j : Int} (h : a ρ μ = .ok (.int j) μ') (hj : rg62 j) : iRg1 a ρ μ = .ok ⟨rangeD 0 j, none⟩ μ' := by
  unfold iRg1
  rw [h, bind_ok]
  exact if_pos hj
theorem iRg2_eq {a b : Sem} {ρ : Env} {μ μ1 μ' : Mem} {i j : Int} (h1 : a ρ μ = .ok (.int i) μ1) (h2 : b ρ μ1 = .ok (.int j) μ') (hi : rg62 i) (hj : rg62 j) : iRg2 a b ρ μ = .ok ⟨rangeD i j, none⟩ μ' := by
  unfold iRg2
  rw [h1, bind_ok, h2, bind_ok]
  exact if_pos ⟨hi, hj⟩
theorem rg1_ok {a : Sem} {ρ : Env} {μ μ' : Mem} {n : Nat} (h : a ρ μ = .ok (.int n) μ') (hn : n < 2 ^ 62) : iRg1 a ρ μ = .ok ⟨(List.range n).map fun (i : Nat) => D.int (i : Int), none⟩ μ' := by
  rw [iRg1_eq h (rg_nat hn), rangeD_nat]
theorem rg2_ok {a : Sem} {ρ : Env} {μ μ' : Mem} {n : Nat} (h : a ρ μ = .ok (.int n) μ') (hn : n < 2 ^ 62) : iRg2 (fC (.int 1)) a ρ μ = .ok ⟨(List.range (n - 1)).map fun (i : Nat) => D.int (1 + (i : Int)), none⟩ μ' := by
  rw [iRg2_eq (a := fC (.int 1)) (i := 1) rfl h (rg_nat (n := 1) (by decide)) (rg_nat hn)]
  unfold rangeD
  rw [show ((n : Int) - 1).toNat = n - 1 by omega]
end Z
namespace Z
open PySem PySem.Spec
section
variable {ρ ρ' : Env} {μ μ' : Mem} {a b : SemS} {f g : Sem} {fa : SemA} {t u : SemT} {d : D} {ds : List D} {k : Bool}
theorem seq_nx (h : a ρ μ = .next ρ' μ') : sSeq a b ρ μ = b ρ' μ' := by unfold sSeq; rw [h]; rfl
theorem seq_ret (h : a ρ μ = .ret d μ') : sSeq a b ρ μ = .ret d μ' := by unfold sSeq; rw [h]; rfl
theorem seq_exc {e : Ex} (h : a ρ μ = .exc e ρ' μ') : sSeq a b ρ μ = .exc e ρ' μ' := by unfold sSeq; rw [h]; rfl
theorem set_eq {i : Nat} (h : f ρ μ = .ok d μ') : sSet i f ρ μ = .next (ρ.set i (some d)) μ' := by unfold sSet; rw [h]; rfl
theorem drop_eq (h : f ρ μ = .ok d μ') : sDrop f ρ μ = .next ρ μ' := by unfold sDrop; rw [h]; rfl
theorem ret_eq (h : f ρ μ = .ok d μ') : sRet f ρ μ = .ret d μ' := by unfold sRet; rw [h]; rfl
theorem ret_exc {e : Ex} (h : f ρ μ = .exc e μ') : sRet f ρ μ = .exc e ρ μ' := by unfold sRet; rw [h]; rfl
theorem ret_bad {e : Ex} (h : f ρ μ = .bad) : sRet f ρ μ = .bad := by unfold sRet; rw [h]; rfl
theorem if_t (h : t ρ μ = .ok true μ') : sIf t a b ρ μ = a ρ μ' := by unfold sIf; rw [h]; rfl
theorem if_f (h : t ρ μ = .ok false μ') : sIf t a b ρ μ = b ρ μ' := by unfold sIf; rw [h]; rfl
theorem if_nx (h : t ρ μ = .ok false μ') : sIf t a sNext ρ μ = .next ρ μ' := by unfold sIf; rw [h]; rfl
theorem for_eq {i : SemI} {c : Tgt} {w : Wk} (h : i ρ μ = .ok w μ') : sFor i c b ρ μ = forL w.gd c b w.ds ρ μ' := by unfold sFor; rw [h]; rfl
theorem tree_eq (h : fa ρ μ = .ok ds μ') : fTree fa ρ μ = .ok (.lst ds) μ' := by unfold fTree; rw [h]; rfl
theorem cons1_eq (h : f ρ μ = .ok d μ') : fCons f fNil ρ μ = .ok [d] μ' := by unfold fCons; rw [h]; rfl
theorem bl_eq {op : List D → Mem → R (List D)} (h : fa ρ μ = .ok ds μ') : fBl op fa ρ μ = op ds μ' := by unfold fBl; rw [h]; rfl
theorem bi_eq {op : DFn} (h : fa ρ μ = .ok ds μ') : fBi op fa ρ μ = op ds μ' := by unfold fBi; rw [h]; rfl
theorem call_eq {S : DFn} {n : Nat} (h : fa ρ μ = .ok ds μ') (hn : ds.length = n) : fCall S n [] fa ρ μ = S ds μ' := by unfold fCall; rw [h, bind_ok, List.append_nil, if_pos hn]
theorem tor_f (h : t ρ μ = .ok false μ') : Z.tOr t u ρ μ = u ρ μ' := by unfold Z.tOr; rw [h]; rfl
theorem tor_t (h : t ρ μ = .ok true μ') : Z.tOr t u ρ μ = .ok true μ' := by unfold Z.tOr; rw [h]; rfl
theorem tne_refl (h1 : f ρ μ = .ok d μ) (h2 : g ρ μ = .ok d μ) (t : d.isT = true) (fi : D.fit 9 d = true) : Z.tCmp dNe f g ρ μ = .ok false μ := by
  unfold Z.tCmp
  rw [h1, bind_ok, h2, bind_ok, dNe_refl t fi]; rfl
theorem val_eq {w : Wk} (h : f ρ μ = .ok d μ') (hw : wkD d μ' = some w) : iVal f ρ μ = .ok w μ' := by unfold iVal; rw [h, bind_ok, hw]; rfl
end
end Z
namespace Z
open PySem PySem.Spec
section
variable {ρ ρ' : Env} {μ μ1 μ2 μ' : Mem} {f g : Sem} {fa : SemA} {t u : SemT} {d e : D} {ds es : List D} {k : Bool} {c c' : Cm}
theorem nil_eq : fNil ρ μ = .ok [] μ := rfl
theorem cons_eq (h : f ρ μ = .ok d μ1) (h2 : fa ρ μ1 = .ok ds μ2) : fCons f fa ρ μ = .ok (d :: ds) μ2 := by unfold fCons; rw [h, bind_ok, h2]; rfl
theorem tup_eq (h : fa ρ μ = .ok ds μ') (hl : ds.length ≤ 1000) : fTup fa ρ μ = .ok (.tup ds) μ' := by unfold fTup; rw [h, bind_ok, if_pos (sl1000 hl)]
theorem items_eq (h : fa ρ μ = .ok ds μ') (hl : ds.length ≤ 1000) : fItems fa ρ μ = .ok ds μ' := by unfold fItems; rw [h, bind_ok, if_pos (sl1000 hl)]
theorem op2_eq {op : D → D → Mem → R D} (h : f ρ μ = .ok d μ1) (h2 : g ρ μ1 = .ok e μ2) : fOp2 op f g ρ μ = op d e μ2 := by unfold fOp2; rw [h, bind_ok, h2]; rfl
theorem ix_eq (h : f ρ μ = .ok d μ1) (h2 : g ρ μ1 = .ok e μ2) : fIx f g ρ μ = dIx d e μ2 := by rw [fIx_eq, h, bind_ok, h2]; rfl
theorem tc_eq (h : f ρ μ = .ok d μ1) (h2 : g ρ μ1 = .ok e μ2) (hc : c d e μ2 = some k) : Z.tCmp c f g ρ μ = .ok k μ2 := by unfold Z.tCmp; rw [h, bind_ok, h2, bind_ok, hc]; rfl
theorem fc_eq (h : f ρ μ = .ok d μ1) (h2 : g ρ μ1 = .ok e μ2) (hc : c d e μ2 = some k) : fCmp c f g ρ μ = .ok (.bl k) μ2 := by unfold fCmp; rw [h, bind_ok, h2, bind_ok, hc]; rfl
theorem tch_eq {x : Sem} {b : D} {k' : Bool} (h : f ρ μ = .ok d μ) (h2 : g ρ μ = .ok e μ) (h3 : x ρ μ = .ok b μ) (hc : c d e μ = some k) (hc' : c' e b μ = some k') : Z.tChain c c' f g x ρ μ = .ok (k && k') μ := by
  unfold Z.tChain
  rw [h, bind_ok, h2, bind_ok, hc, ofP_some, bind_ok]
  cases k with
  | false => rfl
  | true => rw [if_pos rfl, h3, bind_ok, hc']; rfl
theorem and_eq {k' : Bool} (h : t ρ μ = .ok k μ) (h2 : u ρ μ = .ok k' μ) : Z.tAnd t u ρ μ = .ok (k && k') μ := by
  unfold Z.tAnd
  rw [h, bind_ok]
  cases k with
  | false => rfl
  | true => rw [if_pos rfl, h2]; rfl
theorem or_eq {k' : Bool} (h : t ρ μ = .ok k μ) (h2 : u ρ μ = .ok k' μ) : Z.tOr t u ρ μ = .ok (k || k') μ := by
  unfold Z.tOr
  rw [h, bind_ok]
  cases k with
  | true => rfl
  | false => rw [if_neg (by simp), h2]; rfl
theorem not_eq (h : t ρ μ = .ok k μ') : Z.tNot t ρ μ = .ok (!k) μ' := by unfold Z.tNot; rw [h]; rfl
theorem tru_eq (h : f ρ μ = .ok d μ') (ht : truD μ' d = some k) : fTru f ρ μ = .ok k μ' := by unfold fTru; rw [h, bind_ok, ht]; rfl
theorem fif_t (h : t ρ μ = .ok true μ') : fIf t f g ρ μ = f ρ μ' := by unfold fIf; rw [h, bind_ok, if_pos rfl]
theorem fif_f (h : t ρ μ = .ok false μ') : fIf t f g ρ μ = g ρ μ' := by unfold fIf; rw [h, bind_ok, if_neg (by simp)]
theorem box_eq (h : fa ρ μ = .ok ds μ') : fBox fa ρ μ = .ok (.obj μ'.length) (μ' ++ [.lst ds]) := by unfold fBox; rw [h]; rfl
theorem c_eq : fC d ρ μ = .ok d μ := rfl
end
end Z

namespace Z
open PySem PySem.Spec PyProof.Rows L2

/-! ### defs with defaults -/
section
variable {P : Program} {w : World} {K : PySem.W.Frag} {mg : Str → Option Value} {base : Heap} {x qual : Str} {params : Arguments} {bd : List Stmt} {scope : Scope} {dvs : List V} {f : Addr} {fd : FuncData} {N ps : List Str} {k n j : Nat} {F : Fx} {b : SemS} {dds : List D}
theorem cal_dfnD (hm : mg x = some (.ref f)) (Fn : FunD K x qual params bd scope dvs [] f fd) (hb : ∃ ds, Vals (dvs.drop j) ds ∧ Binds K fd ps ds) (hr : ∀ g : G, RepL g dds (dvs.drop j)) (sc : FnScope N ps scope) (hn : ps.length = n)
    (body : ∀ (cdv : Value) (A : Around) (outer : List PySem.Env) (s : Shared) (H : Hp) (E : XK), Room k (A.deeper (envOfC qual scope s.heap.objs.size f cdv)) → SSs (cxOf (L2.CX P w) P w K mg base N qual scope f cdv A outer s H E) F (fun c d _ H' => E c d H') bd b) : Cal P w K mg base F (k + 1) x n dds (dfn N.length b) := by
  obtain ⟨ds, hv, hb⟩ := hb
  exact ⟨f, fd, ps, dvs.drop j, ds, fnDD Fn sc hn body fun ds μ _ => cleanD_ref μ _, hm, Fn.kp, hb, hv, hr⟩
theorem funD_mk {oc kV doc pm cdv ct : Value} {od an : Option Addr} {osl : Array (Option Value)} {T : Addr} {o : Obj} {its : List Value} {n : Nat} (lk : K.lookup f = some ⟨oc, od, .func (PySem.W.fnOf x qual params bd scope (.ref T) kV doc pm an cdv ct), osl⟩) (c : PySem.W.codeIn K cdv qual = true) (kp : PySem.W.keepIn K (.ref f) = true)
    (hd : dvs ≠ []) (l : K.lookup T = some o) (od' : o.data = .seq its.toArray n) (v : Vals dvs its) : FunD K x qual params bd scope dvs [] f (PySem.W.fnOf x qual params bd scope (.ref T) kV doc pm an cdv ct) :=
  ⟨⟨oc, od, .ref T, kV, doc, pm, an, cdv, ct, osl, rfl, lk, c, .inr ⟨hd, T, o, its, n, rfl, l, od', v⟩, .inl rfl⟩, kp⟩
end
/-! ### a def that calls itself: by levels -/
theorem cal_bad {P : Program} {w : World} {K : PySem.W.Frag} {mg : Str → Option Value} {base : Heap} {x qual : Str} {st : Stmt} {f : Addr} {fd : FuncData} {ps : List Str} {k n : Nat} {F : Fx} (hm : mg x = some (.ref f)) (Fn : Fun K x qual st f fd) (hb : Binds K fd ps []) : Cal P w K mg base F k x n [] (fun _ _ => .bad) :=
  ⟨f, fd, ps, [], [], ⟨fun _ _ _ _ h => by
    obtain ⟨g, ds, _, _, _, _, _, o⟩ := h
    exact o.elim, fun _ _ _ _ _ _ _ _ _ _ _ _ _ h => by
    obtain ⟨g, ds, _, _, _, _, _, o⟩ := h
    exact o.elim⟩, hm, Fn.kp, hb, .nil, fun _ => RepL.nil⟩
noncomputable def dfnR (N : Nat) (b : DFn → SemS) : Nat → DFn
  | 0 => fun _ _ => .bad
  | m + 1 => dfn N (b (dfnR N b m))
theorem cal_dfnR {P : Program} {w : World} {K : PySem.W.Frag} {mg : Str → Option Value} {base : Heap} {x qual : Str} {st : Stmt} {f : Addr} {fd : FuncData} {N ps : List Str} {n : Nat} {F : Fx} {b : DFn → SemS} (L : Nat) (hm : mg x = some (.ref f)) (Fn : Fun K x qual st f fd) (hb : Binds K fd ps []) (sc : FnScope N ps (defScope st)) (hn : ps.length = n)
    (body : ∀ (k : Nat) (S : DFn), L ≤ k → Cal P w K mg base F k x n [] S → ∀ (cdv : Value) (A : Around) (outer : List PySem.Env) (s : Shared) (H : Hp) (E : XK), Room k (A.deeper (envOfC qual (defScope st) s.heap.objs.size f cdv)) → SSs (cxOf (L2.CX P w) P w K mg base N qual (defScope st) f cdv A outer s H E) F (fun c d _ H' => E c d H') (defBody st) (b S)) :
    ∀ m : Nat, Cal P w K mg base F (L + m) x n [] (dfnR N.length b m)
  | 0 => cal_bad hm Fn hb
  | m + 1 => ⟨f, fd, ps, [], [], fnD (k := L + m) Fn sc hn (body (L + m) (dfnR N.length b m) (by omega) (cal_dfnR L hm Fn hb sc hn body m)) fun ds μ _ => cleanD_ref μ _, hm, Fn.kp, hb, .nil, fun _ => RepL.nil⟩
end Z

namespace Z
open PySem PySem.Spec PyProof.Rows L2

/-! ### repr -/
def dRepr : DFn := fun ds μ => match ds with
  | [.bl b] => .ok (.str (if b then "True" else "False")) μ
  | [.int i] => if i.natAbs.log2 < 1920 then .ok (.str (toString i)) μ else .bad
  | [.non] => .ok (.str "None") μ
  | _ => .bad
theorem cm_repr (ds : List D) (μ : Mem) : (dRepr ds μ).calm := by
  unfold dRepr
  split
  · trivial
  · split <;> trivial
  · trivial
  · trivial
section
variable {X : Cx} {F : Fx}
theorem cd_repr : CallR X (.builtin "repr") (rDA F dRepr) := by
  intro pins s σ H xs us Q I r h
  obtain ⟨g, ds, e, rfl, m, rr, o⟩ := h
  unfold dRepr at o
  split at o
  · rename_i b
    obtain ⟨v, rfl, rx⟩ := one_rep rr
    cases rx
    cases r with
    | cons r1 r2 =>
      cases r1; cases r2
      exact PySem.P.repr_of_bool ⟨.str _, g.H, I.tok _, ⟨_, rfl⟩, o.here m rfl⟩
  · rename_i i
    obtain ⟨v, rfl, rx⟩ := one_rep rr
    cases rx
    split at o
    · rename_i hz
      cases r with
      | cons r1 r2 =>
        obtain ⟨t, rfl⟩ := r1
        cases r2
        exact PySem.P.repr_of_int hz ⟨.str _, g.H, I.tok _, ⟨_, rfl⟩, o.here m rfl⟩
    · exact o.elim
  · obtain ⟨v, rfl, rx⟩ := one_rep rr
    cases rx
    cases r with
    | cons r1 r2 =>
      cases r1; cases r2
      exact PySem.P.repr_of_none ⟨.str _, g.H, I.tok _, ⟨_, rfl⟩, o.here m rfl⟩
  · exact o.elim
/-! ### list.remove, list.count of ints -/
def dRemove (x : D) (as : List D) (μ : Mem) : R D := match cellL μ x, as with
  | some (n, ds), [.int k] => (match intsD ds with
    | some ns => (match ns.findIdx? (· == k) with
      | some j => putL n (ds.eraseIdx j) .non μ
      | none => .bad)
    | none => .bad)
  | _, _ => .bad
def dCount (x : D) (as : List D) (μ : Mem) : R D := match (lstD μ x).bind intsD, as with
  | some ns, [.int k] => .ok (.int (ns.count k : Nat)) μ
  | _, _ => .bad
theorem cm_remove (x : D) (as : List D) (μ : Mem) : (dRemove x as μ).calm := by
  unfold dRemove
  split
  · split
    · split <;> trivial
    · trivial
  · trivial
theorem cm_count (x : D) (as : List D) (μ : Mem) : (dCount x as μ).calm := by unfold dCount; split <;> trivial
theorem eraseI (ns : List Int) (j : Nat) : (ns.map V.int).eraseIdx j = (ns.eraseIdx j).map V.int := by
  induction ns generalizing j with
  | nil => simp
  | cons n ns ih => cases j with
    | zero => simp
    | succ j => simp [ih]
theorem md_remove : MtR X "list.remove" (rDM F dRemove) := by
  intro pins s σ H x xs v us Q I rx rxs h
  obtain ⟨g, a, ds, e, rfl, m, ra, rd, o⟩ := h
  unfold dRemove at o
  split at o
  · rename_i n es k hc
    split at o
    · rename_i ns hn
      split at o
      · rename_i j hj
        obtain ⟨p, ys, rfl, hα, hμ, hH, t⟩ := cellL_rep m ra hc
        obtain ⟨w, rfl, rw'⟩ := one_rep rd
        cases rw'
        have ey := intsD_rep t hn
        subst ey
        rw [List.findIdx?_eq_some_iff_getElem] at hj
        obtain ⟨hj1, hj2, hj3⟩ := hj
        refine mt_remove pins s σ g.H _ _ v us Q I rx rxs ⟨p, ns, k, j, rfl, rfl, hH, ?_, fun i hi hm => ?_, ?_⟩
        · rw [List.getElem?_eq_getElem hj1, beq_iff_eq.mp hj2]
        · have hi2 : i < ns.length := by omega
          rw [List.getElem?_eq_getElem hi2] at hm
          have := hj3 i hi
          rw [Option.some.inj hm] at this
          simp at this
        · have tt := t.erase j
          rw [eraseI] at tt
          exact out_put o m hα hμ tt rfl
      · exact o.elim
    · exact o.elim
  · exact o.elim
theorem md_count (hF : F.K = X.K) : MtR X "list.count" (rDM F dCount) := by
  intro pins s σ H x xs v us Q I rx rxs h
  obtain ⟨g, a, ds, e, rfl, m, ra, rd, o⟩ := h
  have eK := fxK e hF
  unfold dCount at o
  split at o
  · rename_i ns k hl
    cases h1 : lstD g.μ a with
    | none => rw [h1] at hl; cases hl
    | some es =>
      rw [h1] at hl
      obtain ⟨p, xs, rfl, q, t⟩ := lstD_rep m ra h1
      obtain ⟨w, rfl, rw'⟩ := one_rep rd
      cases rw'
      have ex := intsD_rep t hl
      subst ex
      exact mt_lcount pins s σ g.H _ _ v us Q I rx rxs ⟨p, ns, k, rfl, rfl, eK ▸ q, o.here m rfl⟩
  · exact o.elim
end
/-! ### data without the exception in hand -/
mutual
def D.noX : D → Bool
  | .exn _ _ _ => false
  | .tup ds => D.noXs ds
  | .lst ds => D.noXs ds
  | .sq ds => D.noXs ds
  | .dic _ ds => D.noXs ds
  | _ => true
def D.noXs : List D → Bool
  | [] => true
  | d :: ds => D.noX d && D.noXs ds
end
def Cell.noX : Cell → Bool
  | .lst ds => D.noXs ds
  | .dic _ ds => D.noXs ds
  | .diT _ ds => D.noXs ds
  | .ins _ fs => D.noXs (fs.map (·.2))
  | .fz d => D.noX d
def G.wx (g : G) (z : Option (Addr × Str × Option Addr)) : G := { g with xo := z }
mutual
theorem rep_wx {g : G} {z : Option (Addr × Str × Option Addr)} : ∀ {d : D} {v : V}, D.noX d = true → Rep g d v → Rep (g.wx z) d v
  | .non, _, _, h => h
  | .bl _, _, _, h => h
  | .int _, _, _, h => h
  | .str _, _, _, h => h
  | .tup ds, _, n, ⟨a, xs, e, t, r⟩ => ⟨a, xs, e, t, repL_wx (by simpa [D.noX] using n) r⟩
  | .lst ds, _, n, ⟨a, xs, e, t, r⟩ => ⟨a, xs, e, t, repL_wx (by simpa [D.noX] using n) r⟩
  | .sq ds, _, n, ⟨a, xs, e, t, r⟩ => ⟨a, xs, e, t, repL_wx (by simpa [D.noX] using n) r⟩
  | .dic ks ds, _, n, ⟨a, xs, e, t, l, r⟩ => ⟨a, xs, e, t, l, repL_wx (by simpa [D.noX] using n) r⟩
  | .obj n, _, _, h => h
  | .exn _ _ _, _, n, _ => by simp [D.noX] at n
theorem repL_wx {g : G} {z : Option (Addr × Str × Option Addr)} : ∀ {ds : List D} {vs : List V}, D.noXs ds = true → RepL g ds vs → RepL (g.wx z) ds vs
  | [], _, _, h => h
  | d :: ds, _, n, ⟨v, vs, e, r, t⟩ => by
    simp only [D.noXs, Bool.and_eq_true] at n
    exact ⟨v, vs, e, rep_wx n.1 r, repL_wx n.2 t⟩
end
mutual
theorem rep_noX {g : G} (hx : g.xo = none) : ∀ {d : D} {v : V}, Rep g d v → D.noX d = true
  | .non, _, _ => by simp [D.noX]
  | .bl _, _, _ => by simp [D.noX]
  | .int _, _, _ => by simp [D.noX]
  | .str _, _, _ => by simp [D.noX]
  | .tup ds, _, ⟨_, _, _, _, r⟩ => by simp only [D.noX]; exact repL_noX hx r
  | .lst ds, _, ⟨_, _, _, _, r⟩ => by simp only [D.noX]; exact repL_noX hx r
  | .sq ds, _, ⟨_, _, _, _, r⟩ => by simp only [D.noX]; exact repL_noX hx r
  | .dic ks ds, _, ⟨_, _, _, _, _, r⟩ => by simp only [D.noX]; exact repL_noX hx r
  | .obj n, _, _ => by simp [D.noX]
  | .exn _ _ _, _, ⟨a, dd, e, _⟩ => by rw [hx] at e; cases e
theorem repL_noX {g : G} (hx : g.xo = none) : ∀ {ds : List D} {vs : List V}, RepL g ds vs → D.noXs ds = true
  | [], _, _ => by simp [D.noXs]
  | d :: ds, _, ⟨v, vs, e, r, t⟩ => by simp only [D.noXs, rep_noX hx r, repL_noX hx t]; rfl
end
theorem cell_noX {g : G} (hx : g.xo = none) {a : Addr} : ∀ {c : Cell}, CellRep g a c → c.noX = true
  | .lst ds, ⟨_, _, r⟩ => repL_noX hx r
  | .dic ks ds, ⟨_, _, _, r⟩ => repL_noX hx r
  | .diT ks ds, ⟨_, _, _, r⟩ => repL_noX hx r
  | .ins c fs, ⟨_, _, _, _, _, _, r⟩ => repL_noX hx r
  | .fz d, r => rep_noX hx r
theorem cell_wx {g : G} {z : Option (Addr × Str × Option Addr)} {a : Addr} : ∀ {c : Cell}, c.noX = true → CellRep g a c → CellRep (g.wx z) a c
  | .lst ds, n, ⟨xs, e, r⟩ => ⟨xs, e, repL_wx n r⟩
  | .dic ks ds, n, ⟨xs, e, l, r⟩ => ⟨xs, e, l, repL_wx n r⟩
  | .diT ks ds, n, ⟨xs, e, l, r⟩ => ⟨xs, e, l, repL_wx n r⟩
  | .ins c fs, n, ⟨C, dx, xs, q, e, l, r⟩ => ⟨C, dx, xs, q, e, l, repL_wx n r⟩
  | .fz d, n, r => rep_wx n r
theorem MemOk.wx {g : G} (m : MemOk g) (n : g.μ.all Cell.noX = true) (z : Option (Addr × Str × Option Addr)) : MemOk (g.wx z) :=
  ⟨m.len, m.nd, m.tr, m.exd, fun i a c x y => cell_wx (List.all_eq_true.mp n c (List.mem_of_getElem? y)) (m.cells i a c x y)⟩
theorem MemOk.noX {g : G} (m : MemOk g) (hx : g.xo = none) : g.μ.all Cell.noX = true := by
  rw [List.all_eq_true]
  intro c hc
  obtain ⟨i, hi, e⟩ := List.getElem_of_mem hc
  obtain ⟨a, _, r⟩ := m.at (n := i) (c := c) (by rw [List.getElem?_eq_getElem hi, e])
  exact cell_noX hx r
theorem Ext.wx {g g' : G} {z : Option (Addr × Str × Option Addr)} (x : Ext (g.wx z) g') (hx : g.xo = none) : Ext g (g'.wx none) where
  k := x.k
  cl := x.cl
  xc := x.xc
  xo := hx.symm
  α := x.α
  h := x.h
  p := x.p
  x := x.x
  s := x.s
def envNoX (ρ : Env) : Bool := ρ.all fun o => match o with | some d => d.noX | none => true
theorem EnvOk.wx {g : G} {ρ : Env} {σ : L2.St} (v : EnvOk g ρ σ) (n : envNoX ρ = true) (z : Option (Addr × Str × Option Addr)) : EnvOk (g.wx z) ρ σ := ⟨v.1, fun i d h => by
  obtain ⟨w, h1, h2⟩ := v.2 i d h
  have := List.all_eq_true.mp n _ (List.mem_of_getElem? h)
  exact ⟨w, h1, rep_wx this h2⟩⟩
theorem EnvOk.noX {g : G} {ρ : Env} {σ : L2.St} (v : EnvOk g ρ σ) (hx : g.xo = none) : envNoX ρ = true := by
  unfold envNoX
  rw [List.all_eq_true]
  intro o ho
  cases o with
  | none => rfl
  | some d =>
    obtain ⟨i, hi, e⟩ := List.getElem_of_mem ho
    obtain ⟨w, _, r⟩ := v.2 i d (by rw [List.getElem?_eq_getElem hi, e])
    exact rep_noX hx r
/-! ### try .. except C as x: -/
def endAs (i : Nat) (r : RS) : RS := match r with
  | .ret d μ => if d.noX = true ∧ μ.all Cell.noX = true then .ret d μ else .bad
  | .next ρ μ => if envNoX (ρ.set i none) = true ∧ μ.all Cell.noX = true then .next (ρ.set i none) μ else .bad
  | _ => .bad
def sTryAs (cat : Str → Option Bool) (i : Nat) (body suite : SemS) : SemS := fun ρ μ => match body ρ μ with
  | .exc e ρ' μ' => (match cat e.cls with
    | some true => if e.fs.isEmpty = true then endAs i (suite (ρ'.set i (some (.exn e.cls [] []))) μ') else .bad
    | some false => .exc e ρ' μ'
    | none => .bad)
  | r => r
section
variable {X : Cx} {F : Fx} {W : WX} {x n : Str} {i : Nat} {body suite : List Stmt} {b₀ : Stmt} {np pos pos' : Pos} {fb fs : SemS} {cat : Str → Option Bool}
theorem ss_tryAs (i : Nat) (hs : X.stack = X.env :: X.outer) (hf : X.env.frame = some X.env.locals) (hN : X.N.Nodup) (hxo : F.xo = none) (hc : Cat X.K X.mg F.xc x cat) (tk : Takes X W)
    (hb : ∀ (W' : WX) (pn : List (Addr × Obj)) (xe : Value → Shared → Prop), Takes (X.tr pn xe) W' → PassesOwn (model X.prog X.w) X.A X.env xe → SSs (X.tr pn xe) F W' body fb)
    (hsu : ∀ (a : Addr) (oe : Obj) (c : Str) (D : Addr) (pn : List (Addr × Obj)), F.xc c = some D → Zc (.ref D) none oe → (∃ vs, oe.data = .fields vs) → SSs (X.suite a ((a, oe) :: pn)) { F with xo := some (a, c, none) } W (b₀ :: suite) fs)
    (hi : X.N[i]? = some n := by rfl) (hln : X.env.kindOf n = some .local := by rfl) (hg : Gl X x := by rfl) (hd : (x == ("__debug__" : Str)) = false := by decide) :
    SS X F W (.Try body [.ExceptHandler (some (.Name x np)) (some n) (b₀ :: suite) pos'] [] [] pos) (sTryAs cat i fb fs) := by
  obtain ⟨cv, hm, hcat⟩ := hc.ex
  refine PS.imp (ps_try_as (i := i) (tb := fun W' => tS F W' fb) (ts := fun a cls d D σ H => ∃ (c : Str) (D' : Addr), cls = .ref D' ∧ d = none ∧ F.xc c = some D' ∧ tS { F with xo := some (a, c, none) } W fs D σ H) (Wout := W) hs hf hN hi hln ⟨hg, hd, .inl hm⟩ tk (fun W' pn xe tk' pass => hb W' pn xe tk' pass) fun a oe cls d pn z hv => ?_) fun D σ H ⟨g, ρ, e1, e2, m, v, o⟩ => ?_
  · refine ⟨fun pins s σ H D I ⟨c, D', h1, h2, h3, h4⟩ => ?_⟩
    subst h1; subst h2
    exact (hsu a oe c D' pn h3 z hv).run pins s σ H D I h4
  · refine ⟨g, ρ, e1, e2, m, v, ?_⟩
    unfold sTryAs at o
    cases hr : fb ρ g.μ with
    | exc e ρ' μ' =>
      rw [hr] at o
      simp only at o
      intro g' σ' C dd em m' x' v' ex
      obtain ⟨c', hc', rfl, rest⟩ := ex
      have fxe : g'.fx = F := x'.fx.trans e1
      have gxo : g'.xo = none := by rw [← hxo, ← fxe]; rfl
      cases hk : cat e.cls with
      | none => rw [hk] at o; exact o.elim
      | some b =>
        rw [hk] at o
        have hx2 : F.xc e.cls = some c' := by rw [← fxe]; exact hc'
        refine ⟨b, hcat e.cls b c' hk hx2, fun hb a _ => ?_, fun hb => ?_⟩
        · subst hb
          simp only at o
          by_cases hfs : e.fs.isEmpty = true
          · rw [if_pos hfs] at o
            have hfs' : e.fs = [] := List.isEmpty_iff.mp hfs
            have hdd : dd = none := by
              rcases rest with ⟨_, h⟩ | ⟨d, xs, h1, h2, h3, h4, h5, h6⟩
              · exact h
              · exact absurd hfs' h6
            refine ⟨e.cls, c', rfl, hdd, hx2, g'.wx (some (a, e.cls, none)), ρ'.set i (some (.exn e.cls [] [])), ?_, rfl, m'.wx (m'.noX gxo) _, ?_, ?_⟩
            · show ({ K := g'.K, cl := g'.cl, xc := g'.xc, xo := some (a, e.cls, none) } : Fx) = _
              rw [← fxe]; rfl
            · exact (v'.wx (v'.noX gxo) _).set i ⟨a, none, rfl, rfl, .inl ⟨rfl, rfl, rfl⟩⟩
            · have o' := OutS.from o x'
              show OutS _ W (g'.wx (some (a, e.cls, none))) (fs (ρ'.set i (some (.exn e.cls [] []))) g'.μ)
              rw [em]
              revert o'
              cases fs (ρ'.set i (some (.exn e.cls [] []))) μ' with
              | ret d μ2 =>
                intro o' g3 w e3 m3 x3 r3
                have o2 : OutS D W g' (if d.noX = true ∧ μ2.all Cell.noX = true then .ret d μ2 else .bad) := o'
                split at o2
                · rename_i hn
                  exact o2 (g3.wx none) w e3 (m3.wx (by rw [e3]; exact hn.2) none) (Ext.wx x3 gxo) (rep_wx hn.1 r3)
                · exact o2.elim
              | next ρ2 μ2 =>
                intro o' g3 σ3 e3 m3 x3 v3
                have o2 : OutS D W g' (if envNoX (ρ2.set i none) = true ∧ μ2.all Cell.noX = true then .next (ρ2.set i none) μ2 else .bad) := o'
                split at o2
                · rename_i hn
                  exact o2 (g3.wx none) (σ3.set i none) e3 (m3.wx (by rw [e3]; exact hn.2) none) (Ext.wx x3 gxo) ((v3.unset i).wx hn.1 none)
                · exact o2.elim
              | brk _ _ => exact fun o' => o'.elim
              | cont _ _ => exact fun o' => o'.elim
              | exc _ _ _ => exact fun o' => o'.elim
              | bad => exact fun o' => o'.elim
          · rw [if_neg hfs] at o; exact o.elim
        · subst hb
          simp only at o
          exact o g' σ' _ dd em m' x' v' ⟨c', hc', rfl, rest⟩
    | next ρ' μ' => rw [hr] at o; exact o
    | ret d μ' => rw [hr] at o; exact o
    | brk ρ' μ' => rw [hr] at o; exact o
    | cont ρ' μ' => rw [hr] at o; exact o
    | bad => rw [hr] at o; exact o.elim
end
end Z
namespace Z
open PySem PySem.Spec PyProof.Rows L2
/-! ### isinstance of the exception in hand -/
theorem kit_ref {K : PySem.W.Frag} {C : Addr} {cls : Value} {b : Bool} (hdct : PySem.W.hasDictIn K C = true) (ht : PySem.W.typeIn K (.ref C) = some (.type "type")) (hself : PySem.W.subIn K (.ref C) (.ref C) = some true) (h4 : PySem.W.subIn K cls (.ref C) = some b) : PySem.W.kitOne K cls (.ref C) = some b := by
  obtain ⟨cd, hc, _⟩ := PySem.W.any_some hdct
  have e2 : ((PySem.W.clsIn K C).isSome && PySem.W.typeIn K (.ref C) == some (.type "type")) = true := by rw [hc, ht] <;> rfl
  unfold PySem.W.kitOne
  by_cases e : (cls == .ref C) = true
  · rw [if_pos e]
    have e' := beq_iff_eq.mp e
    subst e'
    rw [h4] at hself
    exact hself.symm
  · rw [if_neg e]
    show (if ((PySem.W.clsIn K C).isSome && PySem.W.typeIn K (.ref C) == some (.type "type")) = true then PySem.W.subIn K cls (.ref C) else none) = some b
    rw [if_pos e2]; exact h4
/-- which exceptions of ours are of the class that stands under the name nm -/
structure IsE (K : PySem.W.Frag) (mg : Str → Option Value) (xc : Str → Option Addr) (nm : Str) (cat : Str → Option Bool) : Prop where
  ex : ∃ (c : V) (cv : Value), ((mg nm = some cv ∧ RelV c cv) ∨ (mg nm = none ∧ bootBuiltins nm = some cv ∧ RelV c cv ∧ nm ≠ "__name__")) ∧ (∀ u, RelV c u → u = cv) ∧ ∀ (cls : Str) (b : Bool) (D : Addr), cat cls = some b → xc cls = some D → PySem.W.kitOne K (.ref D) cv = some b
theorem isE_own {K : PySem.W.Frag} {mg : Str → Option Value} {xc : Str → Option Addr} {nm : Str} {cat : Str → Option Bool} {C : Addr} (h : mg nm = some (.ref C)) (k : ∀ (cls : Str) (b : Bool) (D : Addr), cat cls = some b → xc cls = some D → PySem.W.kitOne K (.ref D) (.ref C) = some b) : IsE K mg xc nm cat :=
  ⟨.ref C, .ref C, .inl ⟨h, rfl⟩, fun _ r => r, k⟩
theorem isE_bi {K : PySem.W.Frag} {mg : Str → Option Value} {xc : Str → Option Addr} {nm : Str} {cat : Str → Option Bool} {T : String} (h : mg nm = none) (hb : bootBuiltins nm = some (.type T)) (hn : nm ≠ "__name__") (k : ∀ (cls : Str) (b : Bool) (D : Addr), cat cls = some b → xc cls = some D → PySem.W.kitOne K (.ref D) (.type T) = some b) : IsE K mg xc nm cat :=
  ⟨.ty T, .type T, .inr ⟨h, hb, rfl, hn⟩, fun _ r => r, k⟩
theorem kit_bi {K : PySem.W.Frag} {D : Addr} {T : String} {b : Bool} (hk : PySem.W.kitMeta T = true) (h : PySem.W.subIn K (.ref D) (.type T) = some b) : PySem.W.kitOne K (.ref D) (.type T) = some b := by
  unfold PySem.W.kitOne
  have e : (Value.ref D == Value.type T) = false := rfl
  rw [e, if_neg (by simp)]
  show (if PySem.W.kitMeta T = true then PySem.W.subIn K (.ref D) (.type T) else none) = some b
  rw [if_pos hk]; exact h
/-- every raised class answers isinstance plainly -/
def ExcCs (K : PySem.W.Frag) (xc : Str → Option Addr) (cs : List Str) : Prop := ∀ c ∈ cs, ∀ D : Addr, xc c = some D → ExcC K D
def fIsE (cs : List Str) (cat : Str → Option Bool) (a : Sem) : Sem := fun ρ μ => (a ρ μ).bind fun x μ => match x with
  | .exn c _ _ => if c ∈ cs then R.ofP μ ((cat c).map D.bl) else .bad
  | _ => .bad
section
variable {X : Cx} {F : Fx} {W : WX} {a : Addr} {oe : Obj} {pn : List (Addr × Obj)} {c0 : Str} {D0 : Addr} {e : Expr} {fe : Sem} {nm : Str} {cat : Str → Option Bool} {cs : List Str} {p p2 pos : Pos}
theorem se_isE (h0 : F.xc c0 = some D0) (hz : Zc (.ref D0) none oe) (hv : ∃ vs, oe.data = .fields vs) (EC : ExcCs X.K F.xc cs) (hI : IsE X.K X.mg F.xc nm cat) (hm : X.mg "isinstance" = none) (he : SE (X.suite a ((a, oe) :: pn)) { F with xo := some (a, c0, none) } W e fe)
    (hg : Gl X "isinstance" := by rfl) (hgN : Gl X nm := by rfl) (hb : bootBuiltins "isinstance" = some (.builtin "isinstance") := by decide +kernel) (hd : (nm == ("__debug__" : Str)) = false := by decide)
    (h1 : starEach [.Name nm p2] X.env = (false, eval (.Name nm p2) X.env) :: starEach [] X.env := by rfl) (h2 : starEach [e, .Name nm p2] X.env = (false, eval e X.env) :: starEach [.Name nm p2] X.env := by rfl) (hpl : (backTo pos (starEach [.Name nm p2] X.env)).any (·.1) = false := by rfl) :
    SE (X.suite a ((a, oe) :: pn)) { F with xo := some (a, c0, none) } W (.Call (.Name "isinstance" p) [e, .Name nm p2] [] pos) (fIsE cs cat fe) := by
  obtain ⟨c, cv, hn, huniq, hk⟩ := hI.ex
  have pN : PE (X.suite a ((a, oe) :: pn)) (.Name nm p2) (tC c) := by
    rcases hn with ⟨h, r⟩ | ⟨h, hb, r, hnn⟩
    · exact pe_glob hgN h r hd
    · exact pe_bltn hgN h hb r hnn hd
  by_cases hin : c0 ∈ cs
  · have ec := EC c0 hin D0 h0
    refine PE.imp (pe_callB (call_isE (X := X) ec hz hv) hg hm hb (pa_cons he (pa_cons pN pa_nil h1) h2) (by decide) (by decide) h2 hpl) fun σ H Q h => tW.bind h fun g ρ x v e m w r o => ?_
    cases x with
    | exn c1 ks vs =>
      obtain ⟨a1, dd, q, rfl, _⟩ := r
      have e1 : g.xo = some (a, c0, none) := by
        have := congrArg Fx.xo e
        exact this
      rw [e1] at q
      cases q
      simp only [hin, if_true] at o
      cases hc : cat c0 with
      | none => simp only [hc] at o; exact o.elim
      | some b =>
        simp only [hc] at o
        exact ⟨c, cv, b, rfl, huniq, hk c0 b D0 hc h0, o.here m rfl⟩
    | _ => exact o.elim
  · refine PE.imp (pe_callB (call_isi (X := X.suite a ((a, oe) :: pn))) hg hm hb (pa_cons he (pa_cons pN pa_nil h1) h2) (by decide) (by decide) h2 hpl) fun σ H Q h => tW.bind h fun g ρ x v e m w r o => ?_
    cases x with
    | exn c1 ks vs =>
      obtain ⟨a1, dd, q, rfl, _⟩ := r
      have e1 : g.xo = some (a, c0, none) := congrArg Fx.xo e
      rw [e1] at q
      cases q
      simp only [hin, if_false] at o
      exact o.elim
    | _ => exact o.elim
end
end Z
namespace Z
open PySem PySem.Spec PyProof.Rows L2
/-! ### within an except suite -/
structure Cts (X : Cx) (F : Fx) : Prop where
  k : F.K = X.K
  u : X.A.units + 70 < cLine
theorem Ctx.su {X : Cx} {F : Fx} {W : WX} {L : Nat} (c : Ctx X F W L) (a : Addr) (oe : Obj) (pn : List (Addr × Obj)) (c0 : Str) : Cts (X.suite a ((a, oe) :: pn)) { F with xo := some (a, c0, none) } := ⟨c.k, c.u⟩
theorem Ctx.so {X : Cx} {F : Fx} {W : WX} {L : Nat} (c : Ctx X F W L) (a : Addr) (oe : Obj) (pn : List (Addr × Obj)) : Cts (X.suite a ((a, oe) :: pn)) F := ⟨c.k, c.u⟩
end Z

namespace Z
open PySem PySem.Spec
section
variable {α : Type} {gd : Grd} {a : Tgt} {e : Sem} {ρ : Env} {i : SemI} {own : List Nat}
/-- a comprehension whose items change the memory -/
theorem lcL_inv (toD : α → D) (J : List α → Mem → Prop) (Q : D → Prop) : ∀ (xs : List α) {μ : Mem}, J xs μ → (∀ x rest μ, J (x :: rest) μ → ∃ ρ1, a (toD x) ρ = some ρ1 ∧ ∃ y μ2, e ρ1 μ = .ok y μ2 ∧ gd.ok μ2 ∧ Q y ∧ J rest μ2) →
    ∃ ys μ', lcL gd a tYes e ρ (xs.map toD) μ = .ok ys μ' ∧ ys.length = xs.length ∧ (∀ y ∈ ys, Q y) ∧ J [] μ'
  | [], μ, h0, _ => ⟨[], μ, rfl, rfl, fun y hy => absurd hy (by simp), h0⟩
  | x :: xs, μ, h0, hs => by
    obtain ⟨ρ1, h1, y, μ2, h2, h3, h4, h5⟩ := hs x xs μ h0
    obtain ⟨ys, μ', g1, g2, g3, g4⟩ := lcL_inv toD J Q xs h5 hs
    refine ⟨y :: ys, μ', ?_, by simp [g2], fun z hz => ?_, g4⟩
    · simp only [List.map_cons, lcL, h1, tYes, R.bindB, if_true, h2, lcG, if_pos h3, g1]
    · rcases List.mem_cons.mp hz with rfl | hz
      · exact h4
      · exact g3 z hz
theorem fLc_inv (toD : α → D) (J : List α → Mem → Prop) (Q : D → Prop) {xs : List α} {μ μ1 : Mem} (hi : i ρ μ = .ok ⟨xs.map toD, gd⟩ μ1) (hl : xs.length ≤ 1000) (h0 : J xs μ1)
    (hs : ∀ x rest μ, J (x :: rest) μ → ∃ ρ1, a (toD x) (wipeD ρ own) = some ρ1 ∧ ∃ y μ2, e ρ1 μ = .ok y μ2 ∧ gd.ok μ2 ∧ Q y ∧ J rest μ2) :
    ∃ ys μ', fLc i a tYes e own ρ μ = .ok ys μ' ∧ ys.length = xs.length ∧ (∀ y ∈ ys, Q y) ∧ J [] μ' := by
  obtain ⟨ys, μ', g1, g2⟩ := lcL_inv (gd := gd) toD J Q xs h0 hs
  refine ⟨ys, μ', ?_, g2⟩
  unfold fLc
  rw [hi, bind_ok, if_pos (by rw [List.length_map]; exact sl1000 hl)]
  exact g1
theorem fLc_yes2 {α : Type} {μ μ' : Mem} (toD : α → D) (f : α → D) {xs : List α} (hi : i ρ μ = .ok ⟨xs.map toD, gd⟩ μ') (hg : gd.ok μ') (hl : xs.length ≤ 1000)
    (h : ∀ x ∈ xs, ∃ ρ1, a (toD x) (wipeD ρ own) = some ρ1 ∧ e ρ1 μ' = .ok (f x) μ') : fLc i a tYes e own ρ μ = .ok (xs.map f) μ' := by
  unfold fLc
  rw [hi, bind_ok, if_pos (by rw [List.length_map]; exact sl1000 hl)]
  exact lcL_yes toD f hg xs h
end
section
variable {ρ : Env} {μ μ1 : Mem} {o : Sem} {es : SemA} {x : D} {op : D → List D → Mem → R D} {ds : List D}
theorem mt_list (ho : o ρ μ = .ok x μ1) (hl : lstD μ1 x = some ds) : fMtT "list" op o es ρ μ = (es ρ μ1).bind fun ds μ => op x ds μ := by
  unfold fMtT
  rw [ho, bind_ok]
  have : tyD "list" x μ1 = true := by
    cases x with
    | str y => simp [lstD] at hl
    | int i => simp [lstD] at hl
    | dic ks vs => simp [lstD] at hl
    | _ => simp only [tyD, hl]; rfl
  rw [if_pos this]
theorem lst_obj {n : Nat} (h : μ[n]? = some (.lst ds)) : lstD μ (.obj n) = some ds := by simp [lstD, h]
theorem append_ok {n : Nat} (d : D) (h : μ[n]? = some (.lst ds)) (hl : ds.length ≤ 1000) : dAppend (.obj n) [d] μ = .ok .non (μ.set n (.lst (ds ++ [d]))) := by
  unfold dAppend
  have e : cellL μ (.obj n) = some (n, ds) := by simp [cellL, h]
  simp only [e]
  rw [if_pos (Nat.lt_of_le_of_lt hl (by rw [sizeLine_eq]; decide))]
  rfl
/-- xs.append(e), xs a cell -/
theorem app_eq {e : Sem} {n : Nat} {d : D} {μ2 : Mem} (ho : o ρ μ = .ok (.obj n) μ) (h : μ[n]? = some (.lst ds)) (he : e ρ μ = .ok d μ2) (h2 : μ2[n]? = some (.lst ds)) (hl : ds.length ≤ 1000) : fMtT "list" dAppend o (fCons e fNil) ρ μ = .ok .non (μ2.set n (.lst (ds ++ [d]))) := by
  rw [mt_list ho (lst_obj h), cons1_eq he, bind_ok, append_ok d h2 hl]
theorem fz_eq {i n : Nat} {c : Cell} {t : D} (hv : Env.at ρ i = some (.obj n)) (h : μ[n]? = some c) (ht : c.tree = some t) : fFz i ρ μ = .ok t (μ.set n (.fz t)) := by
  unfold fFz fV
  rw [hv]
  show (R.ok (D.obj n) μ).bind frzD = _
  rw [bind_ok]
  unfold frzD
  simp only [h, ht]
end
theorem strs_D (ns : List Str) : strsD (ns.map D.str) = some ns := by
  induction ns with
  | nil => rfl
  | cons n ns ih => simp [strsD, ih]
theorem ints_D (ns : List Int) : intsD (ns.map D.int) = some ns := by
  induction ns with
  | nil => rfl
  | cons n ns ih => simp [intsD, ih]
theorem len_str {z : Str} (h : z.length ≤ 1000) (μ : Mem) : dLen [.str z] μ = .ok (.int z.length) μ := by
  have : dLen1 (.str z) μ = some (.int z.length) := if_pos (sl1000 h)
  show R.ofP μ (dLen1 (.str z) μ) = _
  rw [this]; rfl
theorem add_str {a b : Str} (μ : Mem) (h : a.length + b.length ≤ 1000) : dAdd (.str a) (.str b) μ = .ok (.str (a ++ b)) μ := by
  show (if _ then _ else _) = _
  rw [if_pos (sl1000 h)]
theorem join_str {o e : Sem} {ρ : Env} {μ μ1 : Mem} {a : Str} {ys : List Str} (ho : o ρ μ = .ok (.str a) μ) (he : e ρ μ = .ok (.lst (ys.map D.str)) μ1) (hl : (ys.map (·.length)).sum + ys.length * a.length ≤ 16777216) : fMtT "str" dJoin o (fCons e fNil) ρ μ = .ok (.str (Txt.join a ys)) μ1 := by
  unfold fMtT
  rw [ho, bind_ok, if_pos (show tyD "str" (.str a) μ = true by rfl), cons1_eq he, bind_ok]
  have e2 : (lstD μ1 (.lst (ys.map D.str))).bind strsD = some ys := strs_D ys
  unfold dJoin
  simp only [e2]
  rw [if_pos hl]
end Z

namespace Z
open PySem PySem.Spec
/-! ### expressions: one rule for each form -/
structure Imp (k : Bool) (p : Prop) : Prop where
  h : k = true → p
structure ImpF (k : Bool) (p : Prop) : Prop where
  h : k = false → p
theorem imp_t {k : Bool} {p : Prop} (h : k = true → p) : Imp k p := ⟨h⟩
theorem imp_f {k : Bool} {p : Prop} (h : k = false → p) : ImpF k p := ⟨h⟩
/-- one turn of a comprehension -/
structure Trn (p : Prop) : Prop where
  h : p
theorem trn {p : Prop} (h : p) : Trn p := ⟨h⟩
section
variable {ρ : Env} {μ μ1 μ2 μ3 μ' : Mem} {f g x : Sem} {fa : SemA} {t u : SemT} {d e r b : D} {ds es : List D} {k k' : Bool} {c c' : Cm}
theorem ev_c : fC d ρ μ = .ok d μ := rfl
theorem ev_v {i : Nat} (h : ρ[i]? = some (some d)) : fV i ρ μ = .ok d μ := by unfold fV Env.at; rw [h]; rfl
theorem ev_nil : fNil ρ μ = .ok [] μ := rfl
theorem ev_cons (h : f ρ μ = .ok d μ1) (h2 : fa ρ μ1 = .ok ds μ2) : fCons f fa ρ μ = .ok (d :: ds) μ2 := cons_eq h h2
theorem ev_tup (h : fa ρ μ = .ok ds μ') (hl : ds.length ≤ 1000) : fTup fa ρ μ = .ok (.tup ds) μ' := tup_eq h hl
theorem ev_items (h : fa ρ μ = .ok ds μ') (hl : ds.length ≤ 1000) : fItems fa ρ μ = .ok ds μ' := items_eq h hl
theorem ev_tree (h : fa ρ μ = .ok ds μ') : fTree fa ρ μ = .ok (.lst ds) μ' := tree_eq h
theorem ev_box (h : fa ρ μ = .ok ds μ') : fBox fa ρ μ = .ok (.obj μ'.length) (μ' ++ [.lst ds]) := box_eq h
theorem ev_op2 {op : D → D → Mem → R D} (h : f ρ μ = .ok d μ1) (h2 : g ρ μ1 = .ok e μ2) (h3 : op d e μ2 = .ok r μ3) : fOp2 op f g ρ μ = .ok r μ3 := (op2_eq h h2).trans h3
theorem ev_op1 {op : D → Mem → R D} (h : f ρ μ = .ok d μ1) (h3 : op d μ1 = .ok r μ3) : fOp1 op f ρ μ = .ok r μ3 := by unfold fOp1; rw [h]; exact h3
theorem ev_ix (h : f ρ μ = .ok d μ1) (h2 : g ρ μ1 = .ok e μ2) (h3 : dIx d e μ2 = .ok r μ3) : fIx f g ρ μ = .ok r μ3 := (ix_eq h h2).trans h3
theorem ev_tc (h : f ρ μ = .ok d μ1) (h2 : g ρ μ1 = .ok e μ2) (hc : c d e μ2 = some k) : Z.tCmp c f g ρ μ = .ok k μ2 := tc_eq h h2 hc
theorem ev_fc (h : f ρ μ = .ok d μ1) (h2 : g ρ μ1 = .ok e μ2) (hc : c d e μ2 = some k) : fCmp c f g ρ μ = .ok (.bl k) μ2 := fc_eq h h2 hc
theorem ev_tch (h : f ρ μ = .ok d μ) (h2 : g ρ μ = .ok e μ) (hc : c d e μ = some k) (h3 : x ρ μ = .ok b μ) (hc' : c' e b μ = some k') : Z.tChain c c' f g x ρ μ = .ok (k && k') μ := tch_eq h h2 h3 hc hc'
theorem ev_fch (h : f ρ μ = .ok d μ) (h2 : g ρ μ = .ok e μ) (hc : c d e μ = some k) (h3 : x ρ μ = .ok b μ) (hc' : c' e b μ = some k') : Z.fChain c c' f g x ρ μ = .ok (.bl (k && k')) μ := by
  unfold Z.fChain
  rw [h, bind_ok, h2, bind_ok, hc, ofP_some, bind_ok]
  cases k with
  | false => rfl
  | true => rw [if_pos rfl, h3, bind_ok, hc']; rfl
theorem ev_and (h : t ρ μ = .ok k μ1) (h2 : Imp k (u ρ μ1 = .ok k' μ1)) : Z.tAnd t u ρ μ = .ok (k && k') μ1 := by
  unfold Z.tAnd
  rw [h, bind_ok]
  cases k with
  | false => rfl
  | true => rw [if_pos rfl, h2.h rfl]; rfl
theorem ev_or (h : t ρ μ = .ok k μ1) (h2 : ImpF k (u ρ μ1 = .ok k' μ1)) : Z.tOr t u ρ μ = .ok (k || k') μ1 := by
  unfold Z.tOr
  rw [h, bind_ok]
  cases k with
  | true => rfl
  | false => rw [if_neg (by simp), h2.h rfl]; rfl
theorem ev_fand (h : f ρ μ = .ok (.bl k) μ1) (h2 : Imp k (g ρ μ1 = .ok (.bl k') μ1)) : fAnd f g ρ μ = .ok (.bl (k && k')) μ1 := by
  unfold fAnd
  rw [h, bind_ok]
  show (R.ofP μ1 (some k)).bind _ = _
  rw [ofP_some, bind_ok]
  cases k with
  | false => rfl
  | true => rw [if_pos rfl, h2.h rfl]; rfl
theorem ev_for' (h : f ρ μ = .ok (.bl k) μ1) (h2 : ImpF k (g ρ μ1 = .ok (.bl k') μ1)) : fOr f g ρ μ = .ok (.bl (k || k')) μ1 := by
  unfold fOr
  rw [h, bind_ok]
  show (R.ofP μ1 (some k)).bind _ = _
  rw [ofP_some, bind_ok]
  cases k with
  | true => rfl
  | false => rw [if_neg (by simp), h2.h rfl]; rfl
theorem ev_not (h : t ρ μ = .ok k μ') : Z.tNot t ρ μ = .ok (!k) μ' := not_eq h
theorem ev_fnot (h : t ρ μ = .ok k μ') : fNot t ρ μ = .ok (.bl (!k)) μ' := by unfold fNot; rw [h]; rfl
theorem ev_tru (h : f ρ μ = .ok d μ') (ht : truD μ' d = some k) : fTru f ρ μ = .ok k μ' := tru_eq h ht
theorem ev_fif (h : t ρ μ = .ok k μ1) (h1 : Imp k (f ρ μ1 = .ok d μ')) (h2 : ImpF k (g ρ μ1 = .ok e μ')) : fIf t f g ρ μ = .ok (if k = true then d else e) μ' := by
  cases k with
  | true => exact (fif_t h).trans (h1.h rfl)
  | false => exact (fif_f h).trans (h2.h rfl)
theorem ev_bi {op : DFn} (h : fa ρ μ = .ok ds μ1) (h2 : op ds μ1 = .ok d μ') : fBi op fa ρ μ = .ok d μ' := (bi_eq h).trans h2
theorem ev_bl {op : DFl} (h : fa ρ μ = .ok ds μ1) (h2 : op ds μ1 = .ok es μ') : fBl op fa ρ μ = .ok es μ' := (bl_eq h).trans h2
theorem ev_call {S : DFn} {n : Nat} {dds : List D} (h : fa ρ μ = .ok ds μ1) (hn : (ds ++ dds).length = n) (h2 : S (ds ++ dds) μ1 = .ok d μ') : fCall S n dds fa ρ μ = .ok d μ' := by
  unfold fCall; rw [h, bind_ok, if_pos hn]; exact h2
theorem ev_call0 {S : DFn} {n : Nat} (h : fa ρ μ = .ok ds μ1) (hn : ds.length = n) (h2 : S ds μ1 = .ok d μ') : fCall S n [] fa ρ μ = .ok d μ' := ev_call h (by rw [List.append_nil]; exact hn) (by rw [List.append_nil]; exact h2)
theorem ev_calld {S : DFn} {n : Nat} {dds dz : List D} (h : fa ρ μ = .ok ds μ1) (hz : ds ++ dds = dz) (hn : dz.length = n) (h2 : S dz μ1 = .ok d μ') : fCall S n dds fa ρ μ = .ok d μ' := by
  subst hz; exact ev_call h hn h2
theorem ex_call0 {S : DFn} {n : Nat} {e : Ex} (h : fa ρ μ = .ok ds μ1) (hn : ds.length = n) (h2 : S ds μ1 = .exc e μ') : fCall S n [] fa ρ μ = .exc e μ' := by
  unfold fCall; rw [h, bind_ok, List.append_nil, if_pos hn]; exact h2
theorem ex_calld {S : DFn} {n : Nat} {dds dz : List D} {e : Ex} (h : fa ρ μ = .ok ds μ1) (hz : ds ++ dds = dz) (hn : dz.length = n) (h2 : S dz μ1 = .exc e μ') : fCall S n dds fa ρ μ = .exc e μ' := by
  subst hz; unfold fCall; rw [h, bind_ok, if_pos hn]; exact h2
theorem ex_call {S : DFn} {n : Nat} {dds : List D} {e : Ex} (h : fa ρ μ = .ok ds μ1) (hn : (ds ++ dds).length = n) (h2 : S (ds ++ dds) μ1 = .exc e μ') : fCall S n dds fa ρ μ = .exc e μ' := by
  unfold fCall; rw [h, bind_ok, if_pos hn]; exact h2
theorem ev_isi {T t : Ty} (h : f ρ μ = .ok d μ') (ht : tyOf μ' d = some t) (hk : t.is T = k) : fIsI T f ρ μ = .ok (.bl k) μ' := by
  unfold fIsI; rw [h, bind_ok, ht]; subst hk; rfl
theorem ev_isi2 {T U t : Ty} (h : f ρ μ = .ok d μ') (ht : tyOf μ' d = some t) (hk : (t.is T || t.is U) = k) : fIsI2 T U f ρ μ = .ok (.bl k) μ' := by
  unfold fIsI2; rw [h, bind_ok, ht]; subst hk; rfl
theorem ev_cat (h : f ρ μ = .ok d μ1) (h2 : g ρ μ1 = .ok e μ2) (h3 : (fCat f g ρ μ) = .ok ds μ3) : fCat f g ρ μ = .ok ds μ3 := h3
theorem ev_fz {i n : Nat} (hv : ρ[i]? = some (some (.obj n))) (h : μ[n]? = some (.lst ds)) : fFz i ρ μ = .ok (.lst ds) (μ.set n (.fz (.lst ds))) := fz_eq (by unfold Env.at; rw [hv]; rfl) h rfl
theorem ev_val {w : Wk} (h : f ρ μ = .ok d μ') (hw : wkD d μ' = some w) : iVal f ρ μ = .ok w μ' := val_eq h hw
theorem ev_rg1 {n : Nat} (h : f ρ μ = .ok (.int n) μ') (hn : n < 2 ^ 62) : iRg1 f ρ μ = .ok ⟨(List.range n).map fun (i : Nat) => D.int (i : Int), none⟩ μ' := rg1_ok h hn
theorem ev_onone : oNone ρ μ = .ok none μ := rfl
theorem ev_osome {i : Int} (h : f ρ μ = .ok (.int i) μ') : oSome f ρ μ = .ok (some i) μ' := by unfold oSome; rw [h]; rfl
theorem ev_sl {lo hi : SemO} {l h : Option Int} (h1 : f ρ μ = .ok d μ) (h2 : lo ρ μ = .ok l μ1) (h3 : hi ρ μ1 = .ok h μ2) (h4 : dSl d l h μ2 = .ok r μ3) : fSl f lo hi ρ μ = .ok r μ3 := by
  unfold fSl; rw [h1, bind_ok, h2, bind_ok, h3, bind_ok]; exact h4
end
section
variable {α : Type} {i : SemI} {a : Tgt} {t : SemT} {e : Sem} {own : List Nat} {ρ : Env} {μ μ' : Mem} {gd : Grd} {toD : α → D} {xs : List α}
theorem ev_lcY {f : α → D} (hi : i ρ μ = .ok ⟨xs.map toD, gd⟩ μ') (hg : gd.ok μ') (hl : xs.length ≤ 1000)
    (h : Trn (∀ x ∈ xs, ∃ ρ1, a (toD x) (wipeD ρ own) = some ρ1 ∧ e ρ1 μ' = .ok (f x) μ')) : fLc i a tYes e own ρ μ = .ok (xs.map f) μ' := fLc_yes2 toD f hi hg hl h.h
theorem ev_lc {p : α → Bool} {f : α → D} (hi : i ρ μ = .ok ⟨xs.map toD, gd⟩ μ') (hg : gd.ok μ') (hl : xs.length ≤ 1000)
    (h : Trn (∀ x ∈ xs, ∃ ρ1, a (toD x) (wipeD ρ own) = some ρ1 ∧ t ρ1 μ' = .ok (p x) μ' ∧ Imp (p x) (e ρ1 μ' = .ok (f x) μ'))) : fLc i a t e own ρ μ = .ok ((xs.filter p).map f) μ' := by
  unfold fLc
  rw [hi, bind_ok, if_pos (by rw [List.length_map]; exact sl1000 hl)]
  exact lcL_map toD p f hg xs fun x hx => (h.h x hx).imp fun _ z => ⟨z.1, z.2.1, z.2.2.h⟩
end
/-! ### leaves -/
theorem lf_mul {a b : Int} {μ : Mem} (h1 : a.natAbs < 2 ^ 64) (h2 : b.natAbs < 2 ^ 64) : dMul (.int a) (.int b) μ = .ok (.int (a * b)) μ := by
  have lg : ∀ {z : Int}, z.natAbs < 2 ^ 64 → z.natAbs.log2 ≤ 64 := fun {z} h => by
    by_cases h0 : z.natAbs = 0
    · rw [h0, Nat.log2_zero]; exact Nat.zero_le _
    · exact Nat.le_of_lt ((Nat.log2_lt h0).mpr h)
  have := lg h1
  have := lg h2
  show (if _ then _ else _) = _
  rw [if_pos (by omega)]
theorem lf_div {a b : Int} {μ : Mem} (h1 : 0 < b) (h2 : b < 2 ^ 60) : dDiv (.int a) (.int b) μ = .ok (.int (a / b)) μ := by
  show (if _ then _ else _) = _
  have h3 : b.natAbs.log2 < 60 := (Nat.log2_lt (by omega)).mpr (by omega)
  rw [if_pos ⟨by omega, by omega⟩]
theorem lf_mod {a b : Int} {μ : Mem} (h1 : 0 < b) : dMod (.int a) (.int b) μ = .ok (.int (a % b)) μ := by
  show (if _ then _ else _) = _
  rw [if_pos h1]
theorem lf_eq {x y : D} {μ : Mem} (h1 : x.isT = true) (h2 : y.isT = true) (h3 : D.fit 9 x = true) (h4 : D.fit 9 y = true) : dEq x y μ = some (D.eqb x y) := by
  unfold dEq
  rw [res_tree h1, res_tree h2, if_pos ⟨h3, h4⟩]
theorem lf_ne {x y : D} {μ : Mem} (h1 : x.isT = true) (h2 : y.isT = true) (h3 : D.fit 9 x = true) (h4 : D.fit 9 y = true) : dNe x y μ = some (!D.eqb x y) := by
  unfold dNe
  rw [lf_eq h1 h2 h3 h4]; rfl
theorem lf_ne_str {i j : Str} {μ : Mem} : dNe (.str i) (.str j) μ = some (!decide (i = j)) := by unfold dNe; rw [dEq_str]; rfl
theorem lf_in {x : D} {ds : List D} {μ : Mem} (h1 : x.isT = true) (h3 : D.fit 9 x = true) (h4 : D.fits 8 ds = true) : dIn x (.lst ds) μ = some (ds.any fun z => D.eqb z x) := by
  unfold dIn
  cases x <;> first | (cases h1; done) | (simp only [lstD]; rw [if_pos ⟨h4, by simpa [resD] using h3⟩]; rfl)
theorem lf_notin {x : D} {ds : List D} {μ : Mem} (h1 : x.isT = true) (h3 : D.fit 9 x = true) (h4 : D.fits 8 ds = true) : dNotIn x (.lst ds) μ = some (!ds.any fun z => D.eqb z x) := by
  unfold dNotIn
  rw [lf_in h1 h3 h4]; rfl
theorem lf_in_tup {x : D} {ds : List D} {μ : Mem} (h1 : x.isT = true) (h3 : D.fit 9 x = true) (h4 : D.fits 8 ds = true) : dIn x (.tup ds) μ = some (ds.any fun z => D.eqb z x) := by
  unfold dIn
  cases x <;> first | (cases h1; done) | (simp only; rw [if_pos ⟨h4, by simpa [resD] using h3⟩]; rfl)
theorem lf_ix {ds : List D} {k : Nat} {d : D} {μ : Mem} (h : ds[k]? = some d) : dIx (.lst ds) (.int (k : Int)) μ = .ok d μ := by rw [ix_lst, atI_nat h]; rfl
theorem lf_ixt {ds : List D} {k : Nat} {d : D} {μ : Mem} (h : ds[k]? = some d) : dIx (.tup ds) (.int (k : Int)) μ = .ok d μ := by rw [ix_tup, atI_nat h]; rfl
theorem lf_ixo {n : Nat} {ds : List D} {k : Nat} {d : D} {μ : Mem} (h0 : μ[n]? = some (.lst ds)) (h : ds[k]? = some d) : dIx (.obj n) (.int (k : Int)) μ = .ok d μ := by rw [ix_obj _ h0, atI_nat h]; rfl
theorem lf_cat {a b : List D} {μ : Mem} {f g : Sem} {ρ : Env} {x y : D} {μ1 μ2 : Mem} (h1 : f ρ μ = .ok x μ1) (h2 : g ρ μ1 = .ok y μ2) (ha : lstW μ2 x = some a) (hb : lstW μ2 y = some b) (hl : a.length + b.length ≤ 1000) : fCat f g ρ μ = .ok (a ++ b) μ2 := by
  unfold fCat
  simp only [h1, h2, bind_ok, ha, hb]
  rw [if_pos (sl1000 hl)]
theorem lk_e {ρ : Env} {i : Nat} {o : Option (Option D)} (h : ρ[i]? = o) : ρ[i]? = o := h
theorem lk_m {μ : Mem} {i : Nat} {o : Option Cell} (h : μ[i]? = o) : μ[i]? = o := h
theorem lk_d {ds : List D} {i : Nat} {o : Option D} (h : ds[i]? = o) : ds[i]? = o := h
theorem lk_k {t T : Ty} {b : Bool} (h : t.is T = b) : t.is T = b := h
theorem lk_k2 {t T U : Ty} {b : Bool} (h : (t.is T || t.is U) = b) : (t.is T || t.is U) = b := h
theorem lk_g {g : Grd} {μ : Mem} (h : g.ok μ) : g.ok μ := h
theorem lk_z {a b c : List D} (h : a ++ b = c) : a ++ b = c := h
theorem lk_l {ds : List D} {n : Nat} (h : ds.length = n) : ds.length = n := h
theorem lk_t {d : D} {μ : Mem} {o : Option Ty} (h : tyOf μ d = o) : tyOf μ d = o := h
theorem lk_w {d : D} {μ : Mem} {o : Option (List D)} (h : lstW μ d = o) : lstW μ d = o := h
theorem side_le {a b : Nat} (h : a ≤ b) : a ≤ b := h
theorem side_lt {a b : Nat} (h : a < b) : a < b := h
theorem side_ile {a b : Int} (h : a ≤ b) : a ≤ b := h
theorem side_ilt {a b : Int} (h : a < b) : a < b := h
theorem getA {μ0 cs : Mem} {k : Nat} : (μ0 ++ cs)[μ0.length + k]? = cs[k]? := by
  rw [List.getElem?_append_right (Nat.le_add_right _ _), Nat.add_sub_cancel_left]
theorem getA0 {μ0 cs : Mem} : (μ0 ++ cs)[μ0.length]? = cs[0]? := getA (k := 0)
theorem setA {μ0 cs : Mem} {k : Nat} {c : Cell} : (μ0 ++ cs).set (μ0.length + k) c = μ0 ++ cs.set k c := by
  rw [List.set_append_right _ _ (Nat.le_add_right _ _), Nat.add_sub_cancel_left]
theorem setA0 {μ0 cs : Mem} {c : Cell} : (μ0 ++ cs).set μ0.length c = μ0 ++ cs.set 0 c := setA (k := 0)
theorem lenA {μ0 cs : Mem} : (μ0 ++ cs).length = μ0.length + cs.length := List.length_append
theorem lf_getA {μ0 cs : Mem} {k : Nat} {c : Cell} (h : cs[k]? = some c) : (μ0 ++ cs)[μ0.length + k]? = some c := getA.trans h
theorem lf_getA0 {μ0 cs : Mem} {c : Cell} (h : cs[0]? = some c) : (μ0 ++ cs)[μ0.length]? = some c := getA0.trans h

/-! ### statements -/
def WS (a : SemS) (ρ : Env) (μ : Mem) (Q : RS → Prop) : Prop := Q (a ρ μ)
def LQ (nx bk : Env → Mem → Prop) (Q : RS → Prop) : RS → Prop
  | .next ρ μ => nx ρ μ
  | .cont ρ μ => nx ρ μ
  | .brk ρ μ => bk ρ μ
  | r => Q r
section
variable {a b c k : SemS} {ρ ρ' : Env} {μ μ1 μ2 μ' : Mem} {Q : RS → Prop} {f o : Sem} {fa : SemA} {t : SemT} {d : D} {ds : List D} {q : Bool}
theorem WS.tail (h : WS (sSeq a sNext) ρ μ Q) : WS a ρ μ Q := by
  unfold WS sSeq at h
  unfold WS
  cases e : a ρ μ <;> rw [e] at h <;> exact h
theorem WS.assoc (h : WS (sSeq a (sSeq b k)) ρ μ Q) : WS (sSeq (sSeq a b) k) ρ μ Q := by
  unfold WS sSeq at h
  unfold WS sSeq
  cases e : a ρ μ <;> rw [e] at h <;> exact h
theorem WS.skip (h : WS k ρ μ Q) : WS (sSeq sNext k) ρ μ Q := h
theorem WS.fin (h : Q (.next ρ μ)) : WS sNext ρ μ Q := h
theorem WS.nx (h : a ρ μ = .next ρ' μ') (r : WS k ρ' μ' Q) : WS (sSeq a k) ρ μ Q := by
  unfold WS
  rw [seq_nx h]; exact r
theorem WS.set {i : Nat} (h : f ρ μ = .ok d μ') (r : WS k (ρ.set i (some d)) μ' Q) : WS (sSeq (sSet i f) k) ρ μ Q := .nx (set_eq h) r
theorem WS.drop (h : f ρ μ = .ok d μ') (r : WS k ρ μ' Q) : WS (sSeq (sDrop f) k) ρ μ Q := .nx (drop_eq h) r
theorem WS.asg {g : Tgt} (h : f ρ μ = .ok d μ') (h2 : g d ρ = some ρ') (r : WS k ρ' μ' Q) : WS (sSeq (sAsg g f) k) ρ μ Q := .nx (by unfold sAsg; rw [h]; show (match g d ρ with | some ρ' => RS.next ρ' μ' | none => RS.bad) = _; rw [h2]) r
theorem WS.ret (h : f ρ μ = .ok d μ') (r : Q (.ret d μ')) : WS (sSeq (sRet f) k) ρ μ Q := by
  unfold WS
  rw [seq_ret (ret_eq h)]; exact r
theorem WS.retE {e : Ex} (h : f ρ μ = .exc e μ') (r : Q (.exc e ρ μ')) : WS (sSeq (sRet f) k) ρ μ Q := by
  unfold WS
  rw [seq_exc (ret_exc h)]; exact r
theorem WS.retN (r : Q (.ret .non μ)) : WS (sSeq sRetN k) ρ μ Q := r
theorem WS.dropE {e : Ex} (h : f ρ μ = .exc e μ') (r : Q (.exc e ρ μ')) : WS (sSeq (sDrop f) k) ρ μ Q := by
  have : sDrop f ρ μ = .exc e ρ μ' := by unfold sDrop; rw [h]; rfl
  unfold WS
  rw [seq_exc this]; exact r
theorem WS.setE {e : Ex} {i : Nat} (h : f ρ μ = .exc e μ') (r : Q (.exc e ρ μ')) : WS (sSeq (sSet i f) k) ρ μ Q := by
  have : sSet i f ρ μ = .exc e ρ μ' := by unfold sSet; rw [h]; rfl
  unfold WS
  rw [seq_exc this]; exact r
theorem WS.raise {x : Str} (h : fa ρ μ = .ok ds μ') (hl : ds.length ≤ 1000) (r : Q (.exc ⟨x, []⟩ ρ μ')) : WS (sSeq (sRaise x fa) k) ρ μ Q := by
  have : sRaise x fa ρ μ = .exc ⟨x, []⟩ ρ μ' := by unfold sRaise; rw [h, s_ok, if_pos (sl1000 hl)]
  unfold WS
  rw [seq_exc this]; exact r
theorem WS.brk (r : Q (.brk ρ μ)) : WS (sSeq sBrk k) ρ μ Q := r
theorem WS.cont (r : Q (.cont ρ μ)) : WS (sSeq sCont k) ρ μ Q := r
theorem WS.ite (h : t ρ μ = .ok q μ') (h1 : q = true → WS (sSeq a k) ρ μ' Q) (h2 : q = false → WS (sSeq b k) ρ μ' Q) : WS (sSeq (sIf t a b) k) ρ μ Q := by
  have e : sSeq (sIf t a b) k ρ μ = sSeq (if q = true then a else b) k ρ μ' := by
    unfold sSeq
    cases q with
    | true => rw [if_t h]; rfl
    | false => rw [if_f h]; rfl
  unfold WS
  rw [e]
  cases q with
  | true => exact h1 rfl
  | false => exact h2 rfl
theorem WS.if_t (h : t ρ μ = .ok q μ') (hq : q = true) (r : WS (sSeq a k) ρ μ' Q) : WS (sSeq (sIf t a b) k) ρ μ Q := .ite h (fun _ => r) fun z => by rw [hq] at z; cases z
theorem WS.if_f (h : t ρ μ = .ok q μ') (hq : q = false) (r : WS (sSeq b k) ρ μ' Q) : WS (sSeq (sIf t a b) k) ρ μ Q := .ite h (fun z => by rw [hq] at z; cases z) fun _ => r
/-- a part whose end is told by what holds there -/
theorem WS.cut (J : Env → Mem → Prop) (h : WS a ρ μ (LQ J (fun ρ μ => Q (.brk ρ μ)) Q)) (hc : ∀ ρ μ, a ρ μ ≠ .cont ρ μ := by intro _ _ h; cases h) (r : ∀ ρ' μ', J ρ' μ' → WS k ρ' μ' Q) (hk : ∀ ρ' μ', a ρ μ = .cont ρ' μ' → False) : WS (sSeq a k) ρ μ Q := by
  unfold WS sSeq
  unfold WS at h
  cases e : a ρ μ with
  | next ρ' μ' => rw [e] at h; exact r _ _ h
  | cont ρ' μ' => exact (hk _ _ e).elim
  | ret d μ' => rw [e] at h; exact h
  | brk d μ' => rw [e] at h; exact h
  | exc x d μ' => rw [e] at h; exact h
  | bad => rw [e] at h; exact h
theorem WS.app {i n : Nat} {ds0 : List D} {e : Sem} (ho : ρ[i]? = some (some (.obj n))) (h : μ[n]? = some (.lst ds0)) (he : e ρ μ = .ok d μ2) (h2 : μ2[n]? = some (.lst ds)) (hl : ds.length ≤ 1000) (r : WS k ρ (μ2.set n (.lst (ds ++ [d]))) Q) : WS (sSeq (sDrop (fMtT "list" dAppend (fV i) (fCons e fNil))) k) ρ μ Q :=
  .drop (d := .non) (by rw [mt_list (ev_v ho) (lst_obj h), cons1_eq he, bind_ok, append_ok d h2 hl]) r
theorem WS.setI {i n j : Nat} {e x : Sem} (he : e ρ μ = .ok d μ1) (ho : ρ[i]? = some (some (.obj n))) (hx : x ρ μ1 = .ok (.int (j : Int)) μ2) (h2 : μ2[n]? = some (.lst ds)) (hj : j < ds.length) (r : WS k ρ (μ2.set n (.lst (ds.set j d))) Q) : WS (sSeq (sSetI (fV i) x e) k) ρ μ Q := by
  have e1 : cellL μ2 (.obj n) = some (n, ds) := by simp [cellL, h2]
  have e2 : L2.ixN ds.length (j : Int) = some j := by
    unfold L2.ixN
    simp
    omega
  refine .nx (ρ' := ρ) (μ' := μ2.set n (.lst (ds.set j d))) ?_ r
  unfold sSetI
  rw [he, s_ok, ev_v ho, s_ok, hx, s_ok]
  unfold dSetItem
  simp only [e1, e2]
end
section
variable {α : Type} {gd : Grd} {a : Tgt} {b k : SemS} {i : SemI} {ρ : Env} {μ μ1 : Mem} {Q : RS → Prop}
theorem forL_ws (toD : α → D) (I : Nat → Env → Mem → Prop) {K : Env → Mem → Prop} : ∀ (xs : List α) (n : Nat) {ρ : Env} {μ : Mem}, I n ρ μ → (∀ j x ρ μ, xs[j]? = some x → I (n + j) ρ μ → ∃ ρ1, a (toD x) ρ = some ρ1 ∧ WS b ρ1 μ (LQ (fun ρ μ => gd.ok μ ∧ I (n + j + 1) ρ μ) K Q)) → (∀ ρ μ, I (n + xs.length) ρ μ → K ρ μ) →
    (∀ ρ μ, ¬ Q (.brk ρ μ) ) → LQ K (fun ρ μ => Q (.brk ρ μ)) Q (forL gd a b (xs.map toD) ρ μ)
  | [], n, ρ, μ, h0, _, hk, _ => hk ρ μ h0
  | x :: xs, n, ρ, μ, h0, hs, hk, hb => by
    obtain ⟨ρ1, h1, h2⟩ := hs 0 x ρ μ rfl h0
    have go : ∀ ρ2 μ2, gd.ok μ2 ∧ I (n + 0 + 1) ρ2 μ2 → LQ K (fun ρ μ => Q (.brk ρ μ)) Q (forG gd μ2 (forL gd a b (xs.map toD) ρ2 μ2)) := fun ρ2 μ2 ⟨g1, g2⟩ => by
      unfold forG
      rw [if_pos g1]
      refine forL_ws toD I xs (n + 1) g2 (fun j y ρ μ e hI => ?_) (fun ρ μ hI => hk ρ μ ?_) hb
      · have := hs (j + 1) y ρ μ (by simpa using e) (by rw [show n + (j + 1) = n + 1 + j by omega]; exact hI)
        rw [show n + (j + 1) + 1 = n + 1 + j + 1 by omega] at this
        exact this
      · rw [List.length_cons, show n + (xs.length + 1) = n + 1 + xs.length by omega]; exact hI
    simp only [List.map_cons, forL, h1]
    unfold WS at h2
    cases e : b ρ1 μ with
    | next ρ2 μ2 => rw [e] at h2; exact go _ _ h2
    | cont ρ2 μ2 => rw [e] at h2; exact go _ _ h2
    | brk ρ2 μ2 => rw [e] at h2; exact h2
    | ret d μ2 => rw [e] at h2; exact h2
    | exc x d μ2 => rw [e] at h2; exact h2
    | bad => rw [e] at h2; exact h2
theorem forL_ends (gd : Grd) (a : Tgt) (b : SemS) : ∀ (ds : List D) (ρ : Env) (μ : Mem), (∀ ρ' μ', forL gd a b ds ρ μ ≠ .brk ρ' μ') ∧ ∀ ρ' μ', forL gd a b ds ρ μ ≠ .cont ρ' μ'
  | [], ρ, μ => ⟨fun _ _ z => (by cases z), fun _ _ z => (by cases z)⟩
  | d :: ds, ρ, μ => by
    have gg : ∀ μ2 (r : RS), ((∀ ρ' μ', r ≠ .brk ρ' μ') ∧ ∀ ρ' μ', r ≠ .cont ρ' μ') → (∀ ρ' μ', forG gd μ2 r ≠ .brk ρ' μ') ∧ ∀ ρ' μ', forG gd μ2 r ≠ .cont ρ' μ' := fun μ2 r h => by
      unfold forG
      split
      · exact h
      · exact ⟨fun _ _ z => (by cases z), fun _ _ z => (by cases z)⟩
    simp only [forL]
    cases e1 : a d ρ with
    | none => exact ⟨fun _ _ z => (by cases z), fun _ _ z => (by cases z)⟩
    | some ρ1 =>
      simp only
      cases e2 : b ρ1 μ with
      | next ρ2 μ2 => exact gg _ _ (forL_ends gd a b ds _ _)
      | cont ρ2 μ2 => exact gg _ _ (forL_ends gd a b ds _ _)
      | brk ρ2 μ2 => exact ⟨fun _ _ z => (by cases z), fun _ _ z => (by cases z)⟩
      | ret d μ2 => exact ⟨fun _ _ z => (by cases z), fun _ _ z => (by cases z)⟩
      | exc x d μ2 => exact ⟨fun _ _ z => (by cases z), fun _ _ z => (by cases z)⟩
      | bad => exact ⟨fun _ _ z => (by cases z), fun _ _ z => (by cases z)⟩
theorem WS.for {toD : α → D} {xs : List α} (I : Nat → Env → Mem → Prop) (hi : i ρ μ = .ok ⟨xs.map toD, gd⟩ μ1) (h0 : I 0 ρ μ1)
    (hs : ∀ j x ρ μ, xs[j]? = some x → I j ρ μ → ∃ ρ1, a (toD x) ρ = some ρ1 ∧ WS b ρ1 μ (LQ (fun ρ μ => gd.ok μ ∧ I (j + 1) ρ μ) (fun ρ μ => WS k ρ μ Q) Q))
    (hk : ∀ ρ μ, I xs.length ρ μ → WS k ρ μ Q) : WS (sSeq (sFor i a b) k) ρ μ Q := by
  -- what is told of a break is what stands behind the loop: so any wish for it will do
  let Q' : RS → Prop := fun r => match r with | .brk _ _ => False | r => Q r
  have hl := forL_ws (gd := gd) (a := a) (b := b) (Q := Q') (K := fun ρ μ => WS k ρ μ Q) toD I xs 0 h0 (fun j x ρ μ e hI => by
    rw [Nat.zero_add] at hI
    obtain ⟨ρ1, h1, h2⟩ := hs j x ρ μ e hI
    refine ⟨ρ1, h1, ?_⟩
    rw [Nat.zero_add]
    unfold WS at h2 ⊢
    cases e : b ρ1 μ <;> rw [e] at h2 <;> exact h2) (fun ρ μ hI => hk ρ μ (by rw [Nat.zero_add] at hI; exact hI)) (fun _ _ z => z)
  have he := forL_ends gd a b (xs.map toD) ρ μ1
  unfold WS sSeq sFor
  rw [hi, s_ok]
  cases e : forL gd a b (xs.map toD) ρ μ1 with
  | next ρ' μ' => rw [e] at hl; exact hl
  | cont ρ' μ' => exact absurd e (he.2 _ _)
  | brk ρ' μ' => exact absurd e (he.1 _ _)
  | ret d μ' => rw [e] at hl; exact hl
  | exc x d μ' => rw [e] at hl; exact hl
  | bad => rw [e] at hl; exact hl
/-- the same with what is done so far in hand -/
theorem WS.forP {toD : α → D} {xs : List α} (I : List α → Env → Mem → Prop) (hi : i ρ μ = .ok ⟨xs.map toD, gd⟩ μ1) (h0 : I [] ρ μ1)
    (hs : ∀ p x s ρ μ, xs = p ++ x :: s → I p ρ μ → ∃ ρ1, a (toD x) ρ = some ρ1 ∧ WS b ρ1 μ (LQ (fun ρ μ => gd.ok μ ∧ I (p ++ [x]) ρ μ) (fun ρ μ => WS k ρ μ Q) Q))
    (hk : ∀ ρ μ, I xs ρ μ → WS k ρ μ Q) : WS (sSeq (sFor i a b) k) ρ μ Q := by
  refine WS.for (fun j => I (xs.take j)) hi h0 (fun j x ρ μ e hI => ?_) fun ρ μ hI => hk ρ μ (by rw [List.take_length] at hI; exact hI)
  have hj := (List.getElem?_eq_some_iff.mp e).1
  have hx := (List.getElem?_eq_some_iff.mp e).2
  have e1 : xs.take (j + 1) = xs.take j ++ [x] := by rw [List.take_succ_eq_append_getElem hj, hx]
  rw [e1]
  exact hs (xs.take j) x (xs.drop (j + 1)) ρ μ (by rw [← hx, ← List.drop_eq_getElem_cons hj, List.take_append_drop]) hI
theorem whileN_ws {c : SemT} (I : Nat → Env → Mem → Prop) {K : Env → Mem → Prop} (hq : ¬ Q .bad) (hs : ∀ n ρ μ, I n ρ μ → ∃ q μ', c ρ μ = .ok q μ' ∧ (q = true → WS b ρ μ' (LQ (fun ρ μ => ∃ m', m' < n ∧ I m' ρ μ) K Q)) ∧ (q = false → K ρ μ')) :
    ∀ (n : Nat) (ρ : Env) (μ : Mem), I n ρ μ → ∃ r, whileN c b (n + 1) ρ μ = r ∧ r ≠ .bad ∧ LQ K (fun _ _ => False) Q r ∧ (∀ ρ' μ', r ≠ .brk ρ' μ') ∧ ∀ ρ' μ', r ≠ .cont ρ' μ' := by
  intro n
  induction n using Nat.strongRecOn with
  | ind n ih =>
    intro ρ μ h0
    obtain ⟨q, μ', hc, ht, hf⟩ := hs n ρ μ h0
    refine ⟨_, rfl, ?_⟩
    rw [whileN_succ, hc, s_ok]
    cases q with
    | false => exact ⟨fun z => (by cases z), hf rfl, fun _ _ z => (by cases z), fun _ _ z => (by cases z)⟩
    | true =>
      have hb := ht rfl
      rw [if_pos rfl]
      unfold WS at hb
      have go : ∀ ρ2 μ2, (∃ m', m' < n ∧ I m' ρ2 μ2) → whileN c b n ρ2 μ2 ≠ .bad ∧ LQ K (fun _ _ => False) Q (whileN c b n ρ2 μ2) ∧ (∀ ρ' μ', whileN c b n ρ2 μ2 ≠ .brk ρ' μ') ∧ ∀ ρ' μ', whileN c b n ρ2 μ2 ≠ .cont ρ' μ' := fun ρ2 μ2 ⟨m', hm, hI⟩ => by
        obtain ⟨r, e, h1, h2⟩ := ih m' hm ρ2 μ2 hI
        have : whileN c b n ρ2 μ2 = r := by rw [← e]; exact whileN_le (by rw [e]; exact h1) (by omega)
        rw [this]; exact ⟨h1, h2⟩
      cases e : b ρ μ' with
      | next ρ2 μ2 => rw [e] at hb; exact go _ _ hb
      | cont ρ2 μ2 => rw [e] at hb; exact go _ _ hb
      | brk ρ2 μ2 => rw [e] at hb; exact ⟨fun z => (by cases z), hb, fun _ _ z => (by cases z), fun _ _ z => (by cases z)⟩
      | ret d μ2 => rw [e] at hb; exact ⟨fun z => (by cases z), hb, fun _ _ z => (by cases z), fun _ _ z => (by cases z)⟩
      | exc x d μ2 => rw [e] at hb; exact ⟨fun z => (by cases z), hb, fun _ _ z => (by cases z), fun _ _ z => (by cases z)⟩
      | bad => rw [e] at hb; exact (hq hb).elim
/-- a while loop: n goes down -/
theorem WS.while {c : SemT} (I : Nat → Env → Mem → Prop) (n : Nat) (hq : ¬ Q .bad) (h0 : I n ρ μ)
    (hs : ∀ n ρ μ, I n ρ μ → ∃ q μ', c ρ μ = .ok q μ' ∧ (q = true → WS b ρ μ' (LQ (fun ρ μ => ∃ m', m' < n ∧ I m' ρ μ) (fun ρ μ => WS k ρ μ Q) Q)) ∧ (q = false → WS k ρ μ' Q)) : WS (sSeq (sWhile c b) k) ρ μ Q := by
  obtain ⟨r, h1, h2, h3, h4⟩ := whileN_ws (c := c) (b := b) (Q := Q) (K := fun ρ μ => WS k ρ μ Q) I hq hs n ρ μ h0
  have e := sWhile_of h1 h2
  unfold WS sSeq
  rw [e]
  cases r with
  | next ρ' μ' => exact h3
  | cont ρ' μ' => exact absurd rfl (h4.2 _ _)
  | brk ρ' μ' => exact absurd rfl (h4.1 _ _)
  | ret d μ' => exact h3
  | exc x d μ' => exact h3
  | bad => exact absurd rfl h2
end
/-! ### defs -/
theorem fn_by {N : Nat} {b : SemS} {ds : List D} {μ : Mem} {P : R D → Prop} (h : WS b (startD N ds) μ fun r => P (cleanD μ r)) : P (dfn N b ds μ) := h
theorem fk_by {N : Nat} {b : SemS} {ds : List D} {μ : Mem} {P : R D → Prop} (h : WS b (startD N ds) μ fun r => P (keepD μ r)) : P (dfk N b ds μ) := h
theorem fn_ok {N : Nat} {b : SemS} {ds : List D} {μ : Mem} {d : D} (h : WS b (startD N ds) μ fun r => r = .ret d μ) : dfn N b ds μ = .ok d μ := by
  unfold dfn
  rw [show b (startD N ds) μ = .ret d μ from h, clean_ret]
theorem fn_exc {N : Nat} {b : SemS} {ds : List D} {μ : Mem} {e : Ex} (h : WS b (startD N ds) μ fun r => ∃ ρ, r = .exc e ρ μ) : dfn N b ds μ = .exc e μ := by
  unfold dfn
  obtain ⟨ρ, h⟩ := h
  rw [h, clean_exc]
/-- with cells of its own, which go -/
theorem fn_okJ {N : Nat} {b : SemS} {ds : List D} {μ : Mem} {d : D} (hb : μ.all (Cell.below μ.length) = true) (hd : D.lo μ.length d = true) (h : WS b (startD N ds) μ fun r => ∃ ex, r = .ret d (μ ++ ex)) : dfn N b ds μ = .ok d μ := by
  unfold dfn
  obtain ⟨ex, h⟩ := h
  rw [h, clean_app _ hb hd]
end Z

namespace Z
open PySem PySem.Spec
section
variable {ρ : Env} {μ μ1 μ2 μ3 μ' : Mem} {f g : Sem} {fa : SemA} {lo hi : SemO} {l h : Option Int} {d e r : D} {ds es : List D}
theorem ev_slL (h1 : f ρ μ = .ok d μ1) (h2 : lo ρ μ1 = .ok l μ2) (h3 : hi ρ μ2 = .ok h μ3) (h4 : lstD μ3 d = some ds) : fSlL f lo hi ρ μ = .ok (cutD ds l h) μ3 := by
  unfold fSlL; simp only [h1, h2, h3, bind_ok, h4]
theorem cut_take (ds : List D) (k : Nat) : cutD ds none (some (k : Int)) = ds.take k := by
  unfold cutD
  rw [HT.sIx_none, HT.sIx_nat, List.drop_zero, Nat.sub_zero]
  by_cases h : k ≤ ds.length
  · rw [Nat.min_eq_left h]
  · rw [Nat.min_eq_right (by omega), List.take_of_length_le (Nat.le_refl _), List.take_of_length_le (by omega)]
theorem cut_drop (ds : List D) (k : Nat) : cutD ds (some (k : Int)) none = ds.drop k := by
  unfold cutD
  rw [HT.sIx_none, HT.sIx_nat]
  by_cases h : k ≤ ds.length
  · rw [Nat.min_eq_left h, List.take_of_length_le (by rw [List.length_drop]; exact Nat.le_refl _)]
  · rw [Nat.min_eq_right (by omega), Nat.sub_self, List.take_zero, List.drop_of_length_le (by omega)]
theorem cut_mid (ds : List D) (j k : Nat) : cutD ds (some (j : Int)) (some (k : Int)) = (ds.drop j).take (k - j) := by
  unfold cutD
  rw [HT.sIx_nat, HT.sIx_nat]
  apply List.ext_getElem?
  intro i
  simp only [List.getElem?_take, List.getElem?_drop]
  by_cases hj : j ≤ ds.length
  · rw [Nat.min_eq_left hj]
    by_cases hk : k ≤ ds.length
    · rw [Nat.min_eq_left hk]
    · rw [Nat.min_eq_right (by omega)]
      by_cases h1 : i < ds.length - j
      · rw [if_pos h1, if_pos (by omega)]
      · rw [if_neg h1]
        split
        · rw [List.getElem?_eq_none (by omega)]
        · rfl
  · rw [Nat.min_eq_right (show ds.length ≤ j by omega), if_neg (by omega)]
    split
    · rw [List.getElem?_eq_none (by omega)]
    · rfl
theorem ev_slT {k : Nat} (h1 : f ρ μ = .ok d μ1) (h3 : hi ρ μ1 = .ok (some (k : Int)) μ3) (h4 : lstD μ3 d = some ds) : fSlL f oNone hi ρ μ = .ok (ds.take k) μ3 := by
  rw [← cut_take]; exact ev_slL h1 rfl h3 h4
theorem ev_slD {k : Nat} (h1 : f ρ μ = .ok d μ1) (h3 : lo ρ μ1 = .ok (some (k : Int)) μ3) (h4 : lstD μ3 d = some ds) : fSlL f lo oNone ρ μ = .ok (ds.drop k) μ3 := by
  rw [← cut_drop]; exact ev_slL h1 h3 rfl h4
theorem ev_slM {j k : Nat} (h1 : f ρ μ = .ok d μ1) (h2 : lo ρ μ1 = .ok (some (j : Int)) μ2) (h3 : hi ρ μ2 = .ok (some (k : Int)) μ3) (h4 : lstD μ3 d = some ds) : fSlL f lo hi ρ μ = .ok ((ds.drop j).take (k - j)) μ3 := by
  rw [← cut_mid]; exact ev_slL h1 h2 h3 h4
theorem ev_catL (h1 : f ρ μ = .ok d μ1) (h2 : g ρ μ1 = .ok e μ2) (ha : lstW μ2 d = some ds) (hb : lstW μ2 e = some es) (hl : ds.length + es.length ≤ 1000) : fCat f g ρ μ = .ok (ds ++ es) μ2 := lf_cat h1 h2 ha hb hl
theorem ev_repL {k : Nat} (h1 : f ρ μ = .ok d μ1) (h2 : g ρ μ1 = .ok (.int (k : Int)) μ2) (ha : lstW μ2 d = some ds) (hl : ds.length * k ≤ 1000) (hk : k ≤ 1000) : fRep f g ρ μ = .ok (List.replicate k ds).flatten μ2 := by
  unfold fRep
  simp only [h1, h2, bind_ok, ha]
  rw [if_pos ⟨by omega, by omega, sl1000 (by rw [Int.toNat_natCast]; exact hl)⟩, Int.toNat_natCast]
theorem ev_fz2 {i n : Nat} {t : D} (hv : ρ[i]? = some (some (.obj n))) (h : μ[n]? = some (.fz t)) : fFz i ρ μ = .ok t μ := by
  have e : μ.set n (.fz t) = μ := by
    refine List.ext_getElem? fun j => ?_
    by_cases hj : n = j
    · subst hj; rw [List.getElem?_set_self (List.getElem?_eq_some_iff.mp h).1, h]
    · rw [List.getElem?_set_ne hj]
  rw [fz_eq (by unfold Env.at; rw [hv]; rfl) h rfl, e]
theorem lf_ix0 (h : ds[0]? = some d) : dIx (.lst ds) (.int 0) μ = .ok d μ := lf_ix (k := 0) h
theorem lf_ix1 (h : ds[1]? = some d) : dIx (.lst ds) (.int 1) μ = .ok d μ := lf_ix (k := 1) h
theorem lf_ix2 (h : ds[2]? = some d) : dIx (.lst ds) (.int 2) μ = .ok d μ := lf_ix (k := 2) h
theorem lf_ix3 (h : ds[3]? = some d) : dIx (.lst ds) (.int 3) μ = .ok d μ := lf_ix (k := 3) h
theorem lf_ixt0 (h : ds[0]? = some d) : dIx (.tup ds) (.int 0) μ = .ok d μ := lf_ixt (k := 0) h
theorem lf_ixt1 (h : ds[1]? = some d) : dIx (.tup ds) (.int 1) μ = .ok d μ := lf_ixt (k := 1) h
theorem lf_ixt2 (h : ds[2]? = some d) : dIx (.tup ds) (.int 2) μ = .ok d μ := lf_ixt (k := 2) h
theorem lf_ixt3 (h : ds[3]? = some d) : dIx (.tup ds) (.int 3) μ = .ok d μ := lf_ixt (k := 3) h
theorem lf_ixr {α : Type} {fD : α → D} {xs : List α} {k : Nat} (x0 : α) (h : k ∈ List.range xs.length) : dIx (.lst (xs.map fD)) (.int (k : Int)) μ = .ok (fD (xs.getD k x0)) μ := by
  have hk := List.mem_range.mp h
  refine lf_ix ?_
  rw [List.getElem?_map, List.getElem?_eq_getElem hk, List.getD_eq_getElem?_getD, List.getElem?_eq_getElem hk]; rfl
theorem lf_ixr' {α : Type} {fD : α → D} {xs : List α} {k : Nat} (x0 : α) (h : k ∈ List.range (xs.map fD).length) : dIx (.lst (xs.map fD)) (.int (k : Int)) μ = .ok (fD (xs.getD k x0)) μ := lf_ixr x0 (by rwa [List.length_map] at h)
theorem lf_ixk {α : Type} {fD : α → D} {xs : List α} {k : Nat} {x : α} (h : xs[k]? = some x) : dIx (.lst (xs.map fD)) (.int (k : Int)) μ = .ok (fD x) μ := lf_ix (by rw [List.getElem?_map, h]; rfl)
theorem lk_mem {α : Type} {x : α} {xs : List α} (h : x ∈ xs) : x ∈ xs := h
theorem lk_ld {o : Option (List D)} (h : lstD μ d = o) : lstD μ d = o := h
theorem lk_ist {b : Bool} (h : d.isT = b) : d.isT = b := h
end
/-! ### lists compared -/
theorem eqvAll_map {α : Type} (f : α → D) (hf : ∀ x y, D.eqb (f x) (f y) = true ↔ x = y) : ∀ a b : List α, PyData.eqvAll (D.pys (a.map f)) (D.pys (b.map f)) = true ↔ a = b
  | [], [] => by simp [D.pys, PyData.eqvAll]
  | [], _ :: _ => by simp [D.pys, PyData.eqvAll]
  | _ :: _, [] => by simp [D.pys, PyData.eqvAll]
  | x :: a, y :: b => by
    have ih := eqvAll_map f hf a b
    have hx := hf x y
    unfold D.eqb at hx
    simp only [List.map_cons, D.pys, PyData.eqvAll, Bool.and_eq_true, ih, hx, List.cons.injEq]
theorem eqb_lmap {α : Type} {f : α → D} (hf : ∀ x y, D.eqb (f x) (f y) = true ↔ x = y) (a b : List α) : D.eqb (.lst (a.map f)) (.lst (b.map f)) = true ↔ a = b := by
  unfold D.eqb
  simp only [D.py, PyData.eqv]
  exact eqvAll_map f hf a b
theorem eqb_int' (i j : Int) : D.eqb (.int i) (.int j) = true ↔ i = j := by rw [eqb_int]; simp
theorem eqb_str' (i j : Str) : D.eqb (.str i) (.str j) = true ↔ i = j := by rw [eqb_str]; simp
theorem eqb_nat' (i j : Nat) : D.eqb (.int i) (.int j) = true ↔ i = j := by rw [eqb_int, decide_eq_true_eq]; omega
theorem eqb_tup2 (a b c d : D) : D.eqb (.tup [a, b]) (.tup [c, d]) = (D.eqb a c && D.eqb b d) := by
  unfold D.eqb
  simp [D.py, D.pys, PyData.eqv, PyData.eqvAll]
theorem eqb_tup3 (a b c d e f : D) : D.eqb (.tup [a, b, c]) (.tup [d, e, f]) = (D.eqb a d && (D.eqb b e && D.eqb c f)) := by
  unfold D.eqb
  simp [D.py, D.pys, PyData.eqv, PyData.eqvAll]
theorem eqb_dec {α : Type} [DecidableEq α] {f : α → D} (hf : ∀ x y, D.eqb (f x) (f y) = true ↔ x = y) (x y : α) : D.eqb (f x) (f y) = decide (x = y) := by
  rw [Bool.eq_iff_iff, hf]; simp
theorem any_dec {α : Type} [DecidableEq α] {f : α → D} (hf : ∀ x y, D.eqb (f x) (f y) = true ↔ x = y) (xs : List α) (x : α) : ((xs.map f).any fun z => D.eqb z (f x)) = decide (x ∈ xs) := by
  rw [Bool.eq_iff_iff, List.any_map, List.any_eq_true]
  simp only [Function.comp, hf, decide_eq_true_eq]
  exact ⟨fun ⟨y, h, e⟩ => e ▸ h, fun h => ⟨x, h, rfl⟩⟩
end Z

namespace Z
open PySem PySem.Spec
section
variable {cat : Str → Option Bool} {i : Nat} {body suite k : SemS} {ρ ρ' ρ1 : Env} {μ μ' μ1 : Mem} {c : Str} {d : D} {Q : RS → Prop}
/-- try .. except C as e: raised and caught, and the suite returns -/
theorem WS.tryAs_ret (hb : WS body ρ μ fun r => r = .exc ⟨c, []⟩ ρ' μ') (hc : cat c = some true) (hs : WS suite (ρ'.set i (some (.exn c [] []))) μ' fun r => r = .ret d μ1) (hd : d.noX = true) (hm : μ1.all Cell.noX = true) (r : Q (.ret d μ1)) : WS (sSeq (sTryAs cat i body suite) k) ρ μ Q := by
  have e : sTryAs cat i body suite ρ μ = .ret d μ1 := by
    unfold sTryAs
    rw [show body ρ μ = _ from hb]
    simp only [hc]
    rw [if_pos (show List.isEmpty ([] : List (Str × D)) = true from rfl), show suite _ μ' = _ from hs]
    unfold endAs
    simp only
    rw [if_pos ⟨hd, hm⟩]
  unfold WS
  rw [seq_ret e]; exact r
/-- nothing raised -/
theorem WS.tryAs_no (hb : WS body ρ μ (LQ (fun ρ' μ' => WS k ρ' μ' Q) (fun ρ' μ' => Q (.brk ρ' μ')) (fun r => match r with | .exc _ _ _ => False | r => Q r))) (hn : ∀ ρ' μ', body ρ μ ≠ .cont ρ' μ') : WS (sSeq (sTryAs cat i body suite) k) ρ μ Q := by
  unfold WS at hb ⊢
  unfold sSeq sTryAs
  cases e : body ρ μ with
  | next ρ' μ' => rw [e] at hb; exact hb
  | cont ρ' μ' => exact absurd e (hn _ _)
  | ret d μ' => rw [e] at hb; exact hb
  | brk ρ' μ' => rw [e] at hb; exact hb
  | exc x ρ' μ' => rw [e] at hb; exact hb.elim
  | bad => rw [e] at hb; exact hb
/-- try .. except C: raised and caught -/
theorem WS.tryOnly (hb : WS body ρ μ fun r => r = .exc ⟨c, []⟩ ρ' μ') (hc : cat c = some true) (hs : WS (sSeq suite k) ρ' μ' Q) : WS (sSeq (sTryOnly cat body suite) k) ρ μ Q := by
  unfold WS at hb hs ⊢
  unfold sSeq sTryOnly at *
  rw [hb]
  simp only [hc]
  exact hs
theorem WS.tryOnly_no (hb : WS body ρ μ (LQ (fun ρ' μ' => WS k ρ' μ' Q) (fun ρ' μ' => Q (.brk ρ' μ')) (fun r => match r with | .exc _ _ _ => False | r => Q r))) (hn : ∀ ρ' μ', body ρ μ ≠ .cont ρ' μ') : WS (sSeq (sTryOnly cat body suite) k) ρ μ Q := by
  unfold WS at hb ⊢
  unfold sSeq sTryOnly
  cases e : body ρ μ with
  | next ρ' μ' => rw [e] at hb; exact hb
  | cont ρ' μ' => exact absurd e (hn _ _)
  | ret d μ' => rw [e] at hb; exact hb
  | brk ρ' μ' => rw [e] at hb; exact hb
  | exc x ρ' μ' => rw [e] at hb; exact hb.elim
  | bad => rw [e] at hb; exact hb
theorem ev_isE {cs : List Str} {f : Sem} {ks : List Str} {vs : List D} {b : Bool} (h : f ρ μ = .ok (.exn c ks vs) μ') (hc : c ∈ cs) (hk : cat c = some b) : fIsE cs cat f ρ μ = .ok (.bl b) μ' := by
  unfold fIsE
  rw [h, bind_ok]
  simp only
  rw [if_pos hc, hk]; rfl
theorem WS.iteE {t : SemT} {a b : SemS} {e : Ex} (h : t ρ μ = .exc e μ') (r : Q (.exc e ρ μ')) : WS (sSeq (sIf t a b) k) ρ μ Q := by
  have : sIf t a b ρ μ = .exc e ρ μ' := by unfold sIf; rw [h]; rfl
  unfold WS
  rw [seq_exc this]; exact r
theorem ex_tc1 {cm : Cm} {f g : Sem} {e : Ex} (h : f ρ μ = .exc e μ') : Z.tCmp cm f g ρ μ = .exc e μ' := by unfold Z.tCmp; rw [h]; rfl
theorem ex_tru {f : Sem} {e : Ex} (h : f ρ μ = .exc e μ') : fTru f ρ μ = .exc e μ' := by unfold fTru; rw [h]; rfl
theorem ex_not {t : SemT} {e : Ex} (h : t ρ μ = .exc e μ') : Z.tNot t ρ μ = .exc e μ' := by unfold Z.tNot; rw [h]; rfl
theorem ex_cons1 {f : Sem} {fa : SemA} {e : Ex} (h : f ρ μ = .exc e μ') : fCons f fa ρ μ = .exc e μ' := by unfold fCons; rw [h]; rfl
theorem ex_cons2 {f : Sem} {fa : SemA} {e : Ex} (h0 : f ρ μ = .ok d μ1) (h : fa ρ μ1 = .exc e μ') : fCons f fa ρ μ = .exc e μ' := by unfold fCons; rw [h0, bind_ok, h]; rfl
theorem ex_bi {f : DFn} {fa : SemA} {e : Ex} (h : fa ρ μ = .exc e μ') : fBi f fa ρ μ = .exc e μ' := by unfold fBi; rw [h]; rfl
theorem ex_bl {f : DFl} {fa : SemA} {e : Ex} (h : fa ρ μ = .exc e μ') : fBl f fa ρ μ = .exc e μ' := by unfold fBl; rw [h]; rfl
theorem ex_tree {fa : SemA} {e : Ex} (h : fa ρ μ = .exc e μ') : fTree fa ρ μ = .exc e μ' := by unfold fTree; rw [h]; rfl
theorem ex_callA {S : DFn} {n : Nat} {dds : List D} {fa : SemA} {e : Ex} (h : fa ρ μ = .exc e μ') : fCall S n dds fa ρ μ = .exc e μ' := by unfold fCall; rw [h]; rfl
theorem ex_op2a {op : D → D → Mem → R D} {f g : Sem} {e : Ex} (h : f ρ μ = .exc e μ') : fOp2 op f g ρ μ = .exc e μ' := by unfold fOp2; rw [h]; rfl
theorem ex_op2b {op : D → D → Mem → R D} {f g : Sem} {e : Ex} (h0 : f ρ μ = .ok d μ1) (h : g ρ μ1 = .exc e μ') : fOp2 op f g ρ μ = .exc e μ' := by unfold fOp2; rw [h0, bind_ok, h]; rfl
theorem ex_val {f : Sem} {e : Ex} (h : f ρ μ = .exc e μ') : iVal f ρ μ = .exc e μ' := by unfold iVal; rw [h]; rfl
theorem WS.forE {it : SemI} {a : Tgt} {b : SemS} {e : Ex} (h : it ρ μ = .exc e μ') (r : Q (.exc e ρ μ')) : WS (sSeq (sFor it a b) k) ρ μ Q := by
  have : sFor it a b ρ μ = .exc e ρ μ' := by unfold sFor; rw [h]; rfl
  unfold WS
  rw [seq_exc this]; exact r
theorem dEq_bl (a b : Bool) (μ : Mem) : dEq (.bl a) (.bl b) μ = some (a == b) := by
  unfold dEq
  rw [if_pos ⟨rfl, rfl⟩]
  cases a <;> cases b <;> rfl
theorem dNe_bl (a b : Bool) (μ : Mem) : dNe (.bl a) (.bl b) μ = some (!(a == b)) := by unfold dNe; rw [dEq_bl]; rfl
theorem noXs_map {α : Type} (f : α → D) (xs : List α) (h : ∀ x, (f x).noX = true) : D.noXs (xs.map f) = true := by
  induction xs with
  | nil => rfl
  | cons x xs ih => simp [D.noXs, h, ih]
end
/-! ### texts sorted -/
def unS : D → Option Str
  | .str x => some x
  | _ => none
def srtS (xs : List Str) : List Str := (sortD (xs.map D.str)).filterMap unS
theorem unS_map (xs : List Str) : (xs.map D.str).filterMap unS = xs := by
  induction xs with
  | nil => rfl
  | cons x xs ih => simp [unS, ih]
theorem srtS_perm (xs : List Str) : (srtS xs).Perm xs := by
  have := (sortD_perm (xs.map D.str)).filterMap unS
  rwa [unS_map] at this
theorem map_unS : ∀ l : List D, (∀ d ∈ l, ∃ x, d = .str x) → (l.filterMap unS).map D.str = l
  | [], _ => rfl
  | d :: l, h => by
    obtain ⟨x, rfl⟩ := h d List.mem_cons_self
    simp [unS, map_unS l fun e he => h e (List.mem_cons_of_mem _ he)]
theorem srtS_map (xs : List Str) : (srtS xs).map D.str = sortD (xs.map D.str) := map_unS _ fun d hd => by
  obtain ⟨x, _, rfl⟩ := List.mem_map.mp ((sortD_perm _).mem_iff.mp hd)
  exact ⟨x, rfl⟩
/-! ### places told by an Int -/
theorem ixN_nn {n : Nat} {j : Int} (h0 : 0 ≤ j) (h1 : j.toNat < n) : L2.ixN n j = some j.toNat := by
  unfold L2.ixN
  rw [if_pos h0, if_pos (by omega)]
theorem atI_nn {α : Type} {xs : List α} {j : Int} {x : α} (h0 : 0 ≤ j) (h : xs[j.toNat]? = some x) : L2.atI xs j = some x := by
  unfold L2.atI
  rw [ixN_nn h0 (List.getElem?_eq_some_iff.mp h).1]; exact h
theorem lf_ixz {ds : List D} {j : Int} {d : D} {μ : Mem} (h0 : 0 ≤ j) (h : ds[j.toNat]? = some d) : dIx (.lst ds) (.int j) μ = .ok d μ := by rw [ix_lst, atI_nn h0 h]; rfl
theorem lf_ixtz {ds : List D} {j : Int} {d : D} {μ : Mem} (h0 : 0 ≤ j) (h : ds[j.toNat]? = some d) : dIx (.tup ds) (.int j) μ = .ok d μ := by rw [ix_tup, atI_nn h0 h]; rfl
theorem lf_ixoz {n : Nat} {ds : List D} {j : Int} {d : D} {μ : Mem} (hm : μ[n]? = some (.lst ds)) (h0 : 0 ≤ j) (h : ds[j.toNat]? = some d) : dIx (.obj n) (.int j) μ = .ok d μ := by rw [ix_obj _ hm, atI_nn h0 h]; rfl
section
variable {k : SemS} {ρ ρ' : Env} {μ μ1 μ2 μ' : Mem} {Q : RS → Prop} {d : D} {ds : List D}
theorem WS.setIz {i n : Nat} {j : Int} {e x : Sem} (he : e ρ μ = .ok d μ1) (ho : ρ[i]? = some (some (.obj n))) (hx : x ρ μ1 = .ok (.int j) μ2) (h2 : μ2[n]? = some (.lst ds)) (h0 : 0 ≤ j) (hj : j.toNat < ds.length) (r : WS k ρ (μ2.set n (.lst (ds.set j.toNat d))) Q) : WS (sSeq (sSetI (fV i) x e) k) ρ μ Q :=
  .setI he ho (show x ρ μ1 = .ok (.int ((j.toNat : Nat) : Int)) μ2 by rw [hx, Int.toNat_of_nonneg h0]) h2 hj r
end
theorem fn_okM {N : Nat} {b : SemS} {ds : List D} {μ μ' : Mem} {d : D} (hl : μ'.length = μ.length) (h : WS b (startD N ds) μ fun r => r = .ret d μ') : dfn N b ds μ = .ok d μ' := by
  unfold dfn
  rw [show b (startD N ds) μ = .ret d μ' from h, clean_ret' _ hl]
theorem lf_abs (i : Int) (μ : Mem) : dAbs [.int i] μ = .ok (.int (if i < 0 then -i else i)) μ := by
  show R.ok _ _ = _
  congr 2
theorem lf_pow {i : Int} {k : Nat} {μ : Mem} (h : k ≤ 1000000) (h2 : i.natAbs < 2 ^ 64) : dPow (.int i) (.int (k : Int)) μ = .ok (.int (i ^ k)) μ := by
  show (if _ then _ else _) = _
  rw [if_pos ⟨by omega, by omega, h2⟩, Int.toNat_natCast]
theorem lf_powz {i j : Int} {μ : Mem} (h0 : 0 ≤ j) (h : j ≤ 1000000) (h2 : i.natAbs < 2 ^ 64) : dPow (.int i) (.int j) μ = .ok (.int (i ^ j.toNat)) μ := by
  show (if _ then _ else _) = _
  rw [if_pos ⟨by omega, by omega, h2⟩]
end Z

namespace Z
open PySem PySem.Spec
/-! ### memories that are in order -/
structure GoodM (μ : Mem) : Prop where
  b : μ.all (Cell.below μ.length) = true
  x : μ.all Cell.noX = true
mutual
theorem lo_le {m n : Nat} (h : m ≤ n) : ∀ d : D, D.lo m d = true → D.lo n d = true
  | .non, _ => rfl
  | .bl _, _ => rfl
  | .int _, _ => rfl
  | .str _, _ => rfl
  | .tup ds, z => by simp only [D.lo] at z ⊢; exact los_le h ds z
  | .lst ds, z => by simp only [D.lo] at z ⊢; exact los_le h ds z
  | .sq ds, z => by simp only [D.lo] at z ⊢; exact los_le h ds z
  | .dic _ ds, z => by simp only [D.lo] at z ⊢; exact los_le h ds z
  | .obj k, z => by simp only [D.lo, decide_eq_true_eq] at z ⊢; omega
  | .exn _ _ ds, z => by simp only [D.lo] at z ⊢; exact los_le h ds z
theorem los_le {m n : Nat} (h : m ≤ n) : ∀ ds : List D, D.los m ds = true → D.los n ds = true
  | [], _ => by simp [D.los]
  | d :: ds, z => by
    simp only [D.los, Bool.and_eq_true] at z ⊢
    exact ⟨lo_le h d z.1, los_le h ds z.2⟩
end
theorem cell_le {m n : Nat} (h : m ≤ n) {c : Cell} (z : Cell.below m c = true) : Cell.below n c = true := by
  cases c with
  | lst ds => exact los_le h ds z
  | dic ks ds => exact los_le h ds z
  | diT ks ds => exact los_le h ds z
  | ins k fs => exact los_le h _ z
  | fz d => exact lo_le h d z
theorem GoodM.app {μ : Mem} {c : Cell} (g : GoodM μ) (h1 : Cell.below (μ.length + 1) c = true) (h2 : c.noX = true) : GoodM (μ ++ [c]) := by
  refine ⟨?_, by rw [List.all_append, g.x]; simp [h2]⟩
  rw [List.length_append, List.length_singleton, List.all_append, Bool.and_eq_true]
  refine ⟨List.all_eq_true.mpr fun z hz => cell_le (by omega) (List.all_eq_true.mp g.b z hz), by simp [h1]⟩
theorem GoodM.apps {μ : Mem} {cs : List Cell} (g : GoodM μ) (h1 : ∀ c ∈ cs, Cell.below (μ.length + cs.length) c = true) (h2 : ∀ c ∈ cs, c.noX = true) : GoodM (μ ++ cs) := by
  refine ⟨?_, by rw [List.all_append, g.x, List.all_eq_true.mpr h2]; rfl⟩
  rw [List.length_append, List.all_append, Bool.and_eq_true]
  exact ⟨List.all_eq_true.mpr fun z hz => cell_le (by omega) (List.all_eq_true.mp g.b z hz), List.all_eq_true.mpr h1⟩
theorem GoodM.set {μ : Mem} {c : Cell} {n : Nat} (g : GoodM μ) (h1 : Cell.below μ.length c = true) (h2 : c.noX = true) : GoodM (μ.set n c) := by
  refine ⟨?_, ?_⟩
  · rw [List.length_set, List.all_eq_true]
    intro z hz
    rcases List.mem_or_eq_of_mem_set hz with h | rfl
    · exact List.all_eq_true.mp g.b z h
    · exact h1
  · rw [List.all_eq_true]
    intro z hz
    rcases List.mem_or_eq_of_mem_set hz with h | rfl
    · exact List.all_eq_true.mp g.x z h
    · exact h2
theorem GoodM.head {c c' : Cell} {rest : Mem} (g : GoodM (c :: rest)) (h1 : ∀ n, Cell.below n c' = true) (h2 : c'.noX = true) : GoodM (c' :: rest) := g.set (n := 0) (h1 _) h2
/-- data without handles -/
def D.cl (d : D) : Prop := (∀ n, D.lo n d = true) ∧ d.noX = true
theorem cl_int (i : Int) : D.cl (.int i) := ⟨fun _ => rfl, rfl⟩
theorem cl_str (i : Str) : D.cl (.str i) := ⟨fun _ => rfl, rfl⟩
theorem cl_bl (i : Bool) : D.cl (.bl i) := ⟨fun _ => rfl, rfl⟩
theorem cl_non : D.cl .non := ⟨fun _ => rfl, rfl⟩
theorem cls_lo {ds : List D} (h : ∀ d ∈ ds, d.cl) (n : Nat) : D.los n ds = true := by
  rw [D.los_all, List.all_eq_true]; exact fun d hd => (h d hd).1 n
theorem cls_x : ∀ {ds : List D}, (∀ d ∈ ds, d.cl) → D.noXs ds = true
  | [], _ => rfl
  | d :: ds, h => by simp [D.noXs, (h d List.mem_cons_self).2, cls_x fun e he => h e (List.mem_cons_of_mem _ he)]
theorem cl_lst {ds : List D} (h : ∀ d ∈ ds, d.cl) : D.cl (.lst ds) := ⟨fun n => by simp only [D.lo]; exact cls_lo h n, by simp only [D.noX]; exact cls_x h⟩
theorem cl_tup {ds : List D} (h : ∀ d ∈ ds, d.cl) : D.cl (.tup ds) := ⟨fun n => by simp only [D.lo]; exact cls_lo h n, by simp only [D.noX]; exact cls_x h⟩
theorem cl_map {α : Type} {f : α → D} (h : ∀ x, (f x).cl) (xs : List α) : ∀ d ∈ xs.map f, d.cl := fun d hd => by
  obtain ⟨x, _, rfl⟩ := List.mem_map.mp hd; exact h x
theorem cl_cons {d : D} {ds : List D} (h : d.cl) (h2 : ∀ e ∈ ds, e.cl) : ∀ e ∈ d :: ds, e.cl := fun e he => by
  rcases List.mem_cons.mp he with rfl | he
  · exact h
  · exact h2 e he
theorem cl_nil : ∀ e ∈ ([] : List D), e.cl := fun e he => absurd he (by simp)
theorem cl_cell {ds : List D} (h : ∀ d ∈ ds, d.cl) (n : Nat) : Cell.below n (.lst ds) = true := cls_lo h n
theorem cl_cellx {ds : List D} (h : ∀ d ∈ ds, d.cl) : (Cell.lst ds).noX = true := cls_x h
theorem cl_fz {d : D} (h : d.cl) (n : Nat) : Cell.below n (.fz d) = true := h.1 n
section
variable {a k : SemS} {ρ : Env} {μ : Mem} {Q : RS → Prop}
/-- a part behind which J holds, whichever way it went -/
def JQ (J : Env → Mem → Prop) (Q : RS → Prop) : RS → Prop
  | .next ρ μ => J ρ μ
  | .cont _ _ => False
  | .brk _ _ => False
  | r => Q r
theorem WS.join (J : Env → Mem → Prop) (h : WS a ρ μ (JQ J Q)) (r : ∀ ρ' μ', J ρ' μ' → WS k ρ' μ' Q) : WS (sSeq a k) ρ μ Q := by
  unfold WS sSeq
  unfold WS at h
  cases e : a ρ μ with
  | next ρ' μ' => rw [e] at h; exact r _ _ h
  | cont ρ' μ' => rw [e] at h; exact h.elim
  | brk ρ' μ' => rw [e] at h; exact h.elim
  | ret d μ' => rw [e] at h; exact h
  | exc x d μ' => rw [e] at h; exact h
  | bad => rw [e] at h; exact h
/-- .. with the rest of what is wanted out of sight -/
theorem WS.joinA (J : Env → Mem → Prop) (h : ∀ Q' : RS → Prop, (∀ ρ' μ', J ρ' μ' → Q' (.next ρ' μ')) → (∀ d μ', Q (.ret d μ') → Q' (.ret d μ')) → WS a ρ μ Q') (r : ∀ ρ' μ', J ρ' μ' → WS k ρ' μ' Q) : WS (sSeq a k) ρ μ Q :=
  .join J (h _ (fun _ _ z => z) fun _ _ z => z) r
theorem WS.mono {Q Q' : RS → Prop} (h : WS a ρ μ Q) (k : ∀ r, Q r → Q' r) : WS a ρ μ Q' := k _ h
/-- one statement alone -/
theorem WS.one (h : ∀ k Q', (∀ ρ' μ', Q (.next ρ' μ') → WS k ρ' μ' Q') → True) (h2 : WS (sSeq a sNext) ρ μ Q) : WS a ρ μ Q := h2.tail
end
theorem nd_inj {α : Type} {l : List α} (h : l.Nodup) {i j : Nat} {a : α} (hi : l[i]? = some a) (hj : l[j]? = some a) : i = j := by
  obtain ⟨h1, e1⟩ := List.getElem?_eq_some_iff.mp hi
  obtain ⟨h2, e2⟩ := List.getElem?_eq_some_iff.mp hj
  have p := List.pairwise_iff_getElem.mp (List.nodup_iff_pairwise_ne.mp h)
  rcases Nat.lt_trichotomy i j with l | l | l
  · exact absurd (e1.trans e2.symm) (p i j h1 h2 l)
  · exact l
  · exact absurd (e2.trans e1.symm) (p j i h2 h1 l)
theorem nd_mk {α : Type} {l : List α} (h : ∀ (i j : Nat) (a : α), l[i]? = some a → l[j]? = some a → i = j) : l.Nodup := by
  rw [List.nodup_iff_pairwise_ne, List.pairwise_iff_getElem]
  intro i j hi hj hij e
  have := h i j l[j] (by rw [List.getElem?_eq_getElem hi, e]) (List.getElem?_eq_getElem hj)
  omega
theorem eraseIdx_map' {α β : Type} (f : α → β) : ∀ (l : List α) (k : Nat), (l.map f).eraseIdx k = (l.eraseIdx k).map f
  | [], k => by simp
  | a :: l, 0 => by simp
  | a :: l, k + 1 => by simp [eraseIdx_map' f l k]
/-! ### rows with lists of their own, as cells -/
structure HR {α : Type} (e : α → D) (rest : Mem) (n : Nat) (rows : List (Str × Nat × List α)) : Prop where
  o : rest[n]? = some (.lst (rows.map fun q => .tup [.str q.1, .obj (q.2.1 + 1)]))
  i : ∀ q ∈ rows, rest[q.2.1]? = some (.lst (q.2.2.map e))
  nd : (n :: rows.map (·.2.1)).Nodup
section
variable {α : Type} {e : α → D}
theorem HR.lt {rest : Mem} {n : Nat} {rows : List (Str × Nat × List α)} (h : HR e rest n rows) : n < rest.length := (List.getElem?_eq_some_iff.mp h.o).1
theorem HR.ltI {rest : Mem} {n : Nat} {rows : List (Str × Nat × List α)} (h : HR e rest n rows) {q : Str × Nat × List α} (hq : q ∈ rows) : q.2.1 < rest.length := (List.getElem?_eq_some_iff.mp (h.i q hq)).1
theorem HR.ne {rest : Mem} {n : Nat} {rows : List (Str × Nat × List α)} (h : HR e rest n rows) {q : Str × Nat × List α} (hq : q ∈ rows) : n ≠ q.2.1 := fun z => (List.nodup_cons.mp h.nd).1 (z ▸ List.mem_map_of_mem hq)
/-- a row goes -/
theorem HR.erase {rest : Mem} {n : Nat} {rows : List (Str × Nat × List α)} (h : HR e rest n rows) (k : Nat) : HR e (rest.set n (.lst ((rows.map fun q => D.tup [.str q.1, .obj (q.2.1 + 1)]).eraseIdx k))) n (rows.eraseIdx k) := by
  refine ⟨?_, fun q hq => ?_, ?_⟩
  · rw [List.getElem?_set_self h.lt, eraseIdx_map']
  · have hq' := List.mem_of_mem_eraseIdx hq
    rw [List.getElem?_set_ne (h.ne hq')]; exact h.i q hq'
  · refine h.nd.sublist ?_
    exact ((List.eraseIdx_sublist rows k).map _).cons_cons _
/-- an item of a row changes -/
theorem HR.item {rest : Mem} {n k : Nat} {rows : List (Str × Nat × List α)} (h : HR e rest n rows) {q : Str × Nat × List α} (hk : rows[k]? = some q) (its : List α) : HR e (rest.set q.2.1 (.lst (its.map e))) n (rows.set k (q.1, q.2.1, its)) := by
  have hq := List.mem_of_getElem? hk
  have hkl := (List.getElem?_eq_some_iff.mp hk).1
  have hkq := (List.getElem?_eq_some_iff.mp hk).2
  have e2 : (rows.set k (q.1, q.2.1, its)).map (·.2.1) = rows.map (·.2.1) := by
    rw [List.map_set]
    refine List.ext_getElem? fun i => ?_
    by_cases hi : i = k
    · subst hi
      rw [List.getElem?_set_self (by rw [List.length_map]; exact hkl), List.getElem?_map, hk]; rfl
    · rw [List.getElem?_set_ne (by omega)]
  refine ⟨?_, fun z hz => ?_, by rw [e2]; exact h.nd⟩
  · rw [List.getElem?_set_ne (h.ne hq).symm, h.o, List.map_set]
    congr 2
    refine (List.ext_getElem? fun i => ?_)
    by_cases hi : i = k
    · subst hi
      rw [List.getElem?_set_self (by rw [List.length_map]; exact hkl), List.getElem?_map, hk]; rfl
    · rw [List.getElem?_set_ne (by omega)]
  · obtain ⟨i, hi, rfl⟩ := List.mem_iff_getElem.mp hz
    rw [List.length_set] at hi
    by_cases hik : k = i
    · subst hik
      rw [List.getElem_set_self, List.getElem?_set_self (h.ltI hq)]
    · rw [List.getElem_set_ne hik]
      have hm : rows[i] ∈ rows := List.getElem_mem hi
      have hne : q.2.1 ≠ rows[i].2.1 := fun z => by
        have nd := (List.nodup_cons.mp h.nd).2
        have := nd_inj nd (i := k) (j := i) (a := q.2.1) (by rw [List.getElem?_map, hk]; rfl) (by rw [List.getElem?_map, List.getElem?_eq_getElem hi]; exact congrArg some z.symm)
        exact hik this
      rw [List.getElem?_set_ne hne]; exact h.i _ hm
/-- a row is put in place of another, with a new list -/
theorem HR.row {rest : Mem} {n k : Nat} {rows : List (Str × Nat × List α)} (h : HR e rest n rows) (hk : k < rows.length) (nm : Str) (its : List α) : HR e ((rest ++ [Cell.lst (its.map e)]).set n (.lst ((rows.map fun q => D.tup [.str q.1, .obj (q.2.1 + 1)]).set k (.tup [.str nm, .obj (rest.length + 1)])))) n (rows.set k (nm, rest.length, its)) := by
  have hn := h.lt
  refine ⟨?_, fun z hz => ?_, ?_⟩
  · rw [List.getElem?_set_self (by simp; omega), List.map_set]
  · rcases List.mem_or_eq_of_mem_set hz with hz | rfl
    · rw [List.getElem?_set_ne (h.ne hz), List.getElem?_append_left (h.ltI hz)]; exact h.i z hz
    · rw [List.getElem?_set_ne (show n ≠ rest.length by omega)]; simp
  · have nd := List.nodup_cons.mp h.nd
    rw [List.map_set]
    have hlt : ∀ x ∈ rows.map (·.2.1), x < rest.length := fun x hx => by
      obtain ⟨q, hq, rfl⟩ := List.mem_map.mp hx; exact h.ltI hq
    refine List.nodup_cons.mpr ⟨fun hm => ?_, ?_⟩
    · rcases List.mem_or_eq_of_mem_set hm with hm | hm
      · exact nd.1 hm
      · have : n = rest.length := hm
        omega
    · refine nd_mk fun i j a hi hj => ?_
      by_cases h1 : k = i
      · by_cases h2 : k = j
        · omega
        · subst h1
          rw [List.getElem?_set_self (by rw [List.length_map]; exact hk)] at hi
          rw [List.getElem?_set_ne h2] at hj
          cases hi
          exact absurd (hlt _ (List.mem_of_getElem? hj)) (Nat.lt_irrefl _)
      · by_cases h2 : k = j
        · subst h2
          rw [List.getElem?_set_self (by rw [List.length_map]; exact hk)] at hj
          rw [List.getElem?_set_ne h1] at hi
          cases hj
          exact absurd (hlt _ (List.mem_of_getElem? hi)) (Nat.lt_irrefl _)
        · rw [List.getElem?_set_ne h1] at hi
          rw [List.getElem?_set_ne h2] at hj
          exact nd_inj nd.2 hi hj
/-- frozen with what they hold -/
theorem foldM_0 (ds : List D) (μ : Mem) : foldM (frzN 0) ds μ = some μ := by
  induction ds with
  | nil => rfl
  | cons d ds ih =>
    have e : frzN 0 d μ = some μ := rfl
    simp only [foldM, e]
    exact ih
theorem frz_obj {k n : Nat} {μ μ' : Mem} {c : Cell} {t : D} (h : μ[n]? = some c) (h1 : foldM (frzN k) c.kids μ = some μ') (h2 : (μ'[n]?).bind (Cell.res μ') = some t) : frzN (k + 1) (.obj n) μ = some (μ'.set n (.fz t)) := by
  unfold frzN
  simp only [h]
  simp only [h1, h2]
theorem frz1 (he : ∀ x μ, resT μ (e x) = e x) {μ : Mem} {h : Nat} {its : List α} (hm : μ[h]? = some (.lst (its.map e))) : frzN 1 (.obj h) μ = some (μ.set h (.fz (.lst (its.map e)))) := by
  refine frz_obj hm (foldM_0 _ μ) ?_
  rw [hm]
  show some (D.lst ((its.map e).map (resT μ))) = _
  rw [List.map_map, show (resT μ ∘ e) = e from funext fun x => he x μ]
theorem frz2 (he : ∀ x μ, resT μ (e x) = e x) (hcl : ∀ x, (e x).cl) : ∀ (rows : List (Str × Nat × List α)) (μ : Mem), (∀ q ∈ rows, μ[q.2.1 + 1]? = some (.lst (q.2.2.map e))) → (rows.map (·.2.1)).Nodup → GoodM μ →
    ∃ μ', foldM (frzN 2) (rows.map fun q => .tup [.str q.1, .obj (q.2.1 + 1)]) μ = some μ' ∧ μ'.length = μ.length ∧ (∀ q ∈ rows, μ'[q.2.1 + 1]? = some (.fz (.lst (q.2.2.map e)))) ∧ (∀ j, (∀ q ∈ rows, j ≠ q.2.1 + 1) → μ'[j]? = μ[j]?) ∧ GoodM μ'
  | [], μ, _, _, g => ⟨μ, rfl, rfl, fun q hq => absurd hq (by simp), fun _ _ => rfl, g⟩
  | q :: rows, μ, h, nd, g => by
    have nd := List.nodup_cons.mp nd
    have h1 := frz1 he (h q List.mem_cons_self)
    have hlt := (List.getElem?_eq_some_iff.mp (h q List.mem_cons_self)).1
    have hne : ∀ z ∈ rows, q.2.1 + 1 ≠ z.2.1 + 1 := fun z hz e => nd.1 (by show q.2.1 ∈ _; rw [show q.2.1 = z.2.1 by omega]; exact List.mem_map_of_mem hz)
    have cl : D.cl (.lst (q.2.2.map e)) := cl_lst (cl_map hcl _)
    obtain ⟨μ', k1, k2, k3, k4, k5⟩ := frz2 he hcl rows (μ.set (q.2.1 + 1) (.fz (.lst (q.2.2.map e)))) (fun z hz => by rw [List.getElem?_set_ne (hne z hz)]; exact h z (List.mem_cons_of_mem _ hz)) nd.2 (g.set (cl_fz cl _) cl.2)
    refine ⟨μ', ?_, by rw [k2, List.length_set], fun z hz => ?_, fun j hj => ?_, k5⟩
    · have e1 : frzN 2 (.tup [.str q.1, .obj (q.2.1 + 1)]) μ = some (μ.set (q.2.1 + 1) (.fz (.lst (q.2.2.map e)))) := by
        show foldM (frzN 1) [.str q.1, .obj (q.2.1 + 1)] μ = _
        have e0 : frzN 1 (.str q.1) μ = some μ := rfl
        simp only [foldM, e0, h1]
      simp only [List.map_cons, foldM, e1]
      exact k1
    · rcases List.mem_cons.mp hz with rfl | hz
      · rw [k4 _ hne, List.getElem?_set_self hlt]
      · exact k3 z hz
    · rw [k4 j fun z hz => hj z (List.mem_cons_of_mem _ hz), List.getElem?_set_ne (fun z => hj q List.mem_cons_self z.symm)]
theorem HR.frz (he : ∀ x μ, resT μ (e x) = e x) (hcl : ∀ x, (e x).cl) {c : Cell} {rest : Mem} {n i : Nat} {rows : List (Str × Nat × List α)} {ρ : Env} (h : HR e rest n rows) (g : GoodM (c :: rest)) (hi : ρ[i]? = some (some (.obj (n + 1)))) :
    ∃ rest', fFzN 3 i ρ (c :: rest) = .ok (.lst (rows.map fun q => .tup [.str q.1, .lst (q.2.2.map e)])) (c :: rest') ∧ rest'.length = rest.length ∧ GoodM (c :: rest') ∧ rest'[n]? = some (.fz (.lst (rows.map fun q => .tup [.str q.1, .lst (q.2.2.map e)]))) := by
  obtain ⟨μ', k1, k2, k3, k4, k5⟩ := frz2 he hcl rows (c :: rest) (fun q hq => by simpa using h.i q hq) (List.nodup_cons.mp h.nd).2 g
  have hn : μ'[n + 1]? = some (.lst (rows.map fun q => .tup [.str q.1, .obj (q.2.1 + 1)])) := by
    rw [k4 (n + 1) fun q hq z => h.ne hq (by omega)]; simpa using h.o
  have e1 : (rows.map fun q => D.tup [.str q.1, .obj (q.2.1 + 1)]).map (resT μ') = rows.map fun q => .tup [.str q.1, .lst (q.2.2.map e)] := by
    rw [List.map_map]
    refine List.map_congr_left fun q hq => ?_
    show D.tup [.str q.1, resO μ' (.obj (q.2.1 + 1))] = _
    simp only [resO, k3 q hq]
  have f1 : frzN 3 (.obj (n + 1)) (c :: rest) = some (μ'.set (n + 1) (.fz (.lst (rows.map fun q => .tup [.str q.1, .lst (q.2.2.map e)])))) := by
    have h0 : (c :: rest)[n + 1]? = some (.lst (rows.map fun q => .tup [.str q.1, .obj (q.2.1 + 1)])) := by simpa using h.o
    refine frz_obj h0 k1 ?_
    rw [hn]
    show some (D.lst (List.map (resT μ') (rows.map fun q => D.tup [.str q.1, .obj (q.2.1 + 1)]))) = _
    rw [e1]
  have hl : n + 1 < μ'.length := (List.getElem?_eq_some_iff.mp hn).1
  obtain ⟨c', rest', rfl⟩ : ∃ c' rest', μ' = c' :: rest' := by
    cases μ' with
    | nil => simp at k2
    | cons a b => exact ⟨a, b, rfl⟩
  have hc : c' = c := by
    have := k4 0 (fun q hq z => by omega)
    simpa using this
  subst hc
  have cl : D.cl (.lst (rows.map fun q => .tup [.str q.1, .lst (q.2.2.map e)])) := cl_lst (cl_map (fun q => cl_tup (cl_cons (cl_str _) (cl_cons (cl_lst (cl_map hcl _)) cl_nil))) _)
  refine ⟨rest'.set n (.fz (.lst (rows.map fun q => .tup [.str q.1, .lst (q.2.2.map e)]))), ?_, by simpa using k2, ?_, ?_⟩
  · unfold fFzN
    rw [ev_v hi, bind_ok]
    simp only [f1]
    rw [List.set_cons_succ]
    congr 1
    show resO _ (.obj (n + 1)) = _
    simp only [List.length_cons, Nat.add_lt_add_iff_right] at hl
    simp [resO, hl]
  · have := k5.set (n := n + 1) (c := .fz (.lst (rows.map fun q => .tup [.str q.1, .lst (q.2.2.map e)]))) (cl_fz cl _) cl.2
    simpa using this
  · simp only [List.length_cons, Nat.add_lt_add_iff_right] at hl
    simp [hl]
/-- frozen again -/
theorem frz_again {c : Cell} {rest : Mem} {n i : Nat} {t : D} {ρ : Env} (h : rest[n]? = some (.fz t)) (hi : ρ[i]? = some (some (.obj (n + 1)))) : fFzN 3 i ρ (c :: rest) = .ok t (c :: rest) := by
  have h0 : (c :: rest)[n + 1]? = some (.fz t) := by simpa using h
  have f1 : frzN 3 (.obj (n + 1)) (c :: rest) = some ((c :: rest).set (n + 1) (.fz t)) := by
    refine frz_obj h0 (μ' := c :: rest) rfl ?_
    rw [h0]; rfl
  have e : (c :: rest).set (n + 1) (.fz t) = c :: rest := by
    rw [List.set_cons_succ]
    congr 1
    refine List.ext_getElem? fun j => ?_
    by_cases hj : n = j
    · subst hj; rw [List.getElem?_set_self (List.getElem?_eq_some_iff.mp h).1, h]
    · rw [List.getElem?_set_ne hj]
  unfold fFzN
  rw [ev_v hi, bind_ok, f1, e]
  simp only
  congr 1
  show resO _ (.obj (n + 1)) = _
  simp only [resO, h0]
end
section
variable {α : Type} {gd : Grd} {a : Tgt} {b k : SemS} {i : SemI} {ρ : Env} {μ μ1 : Mem} {Q : RS → Prop}
/-- a loop, with the rest of what is wanted out of sight -/
theorem WS.forA {toD : α → D} {xs : List α} (I : Nat → Env → Mem → Prop) (hi : i ρ μ = .ok ⟨xs.map toD, gd⟩ μ1) (h0 : I 0 ρ μ1)
    (hs : ∀ (j : Nat) (x : α) (ρ : Env) (μ : Mem) (Q' : RS → Prop), xs[j]? = some x → (∀ ρ μ, gd.ok μ → I (j + 1) ρ μ → Q' (.next ρ μ)) → (∀ d μ, Q (.ret d μ) → Q' (.ret d μ)) → I j ρ μ → ∃ ρ1, a (toD x) ρ = some ρ1 ∧ WS b ρ1 μ Q')
    (hk : ∀ ρ μ, I xs.length ρ μ → WS k ρ μ Q) : WS (sSeq (sFor i a b) k) ρ μ Q :=
  .for I hi h0 (fun j x ρ μ hx hI => hs j x ρ μ _ hx (fun _ _ g h => ⟨g, h⟩) (fun _ _ h => h) hI) hk
theorem WS.forPA {toD : α → D} {xs : List α} (I : List α → Env → Mem → Prop) (hi : i ρ μ = .ok ⟨xs.map toD, gd⟩ μ1) (h0 : I [] ρ μ1)
    (hs : ∀ (p : List α) (x : α) (s : List α) (ρ : Env) (μ : Mem) (Q' : RS → Prop), xs = p ++ x :: s → (∀ ρ μ, gd.ok μ → I (p ++ [x]) ρ μ → Q' (.next ρ μ)) → (∀ d μ, Q (.ret d μ) → Q' (.ret d μ)) → I p ρ μ → ∃ ρ1, a (toD x) ρ = some ρ1 ∧ WS b ρ1 μ Q')
    (hk : ∀ ρ μ, I xs ρ μ → WS k ρ μ Q) : WS (sSeq (sFor i a b) k) ρ μ Q :=
  .forP I hi h0 (fun p x s ρ μ hx hI => hs p x s ρ μ _ hx (fun _ _ g h => ⟨g, h⟩) (fun _ _ h => h) hI) hk
end
end Z

namespace Z
open PySem PySem.Spec
section
variable {ρ : Env} {μ : Mem} {i n : Nat} {ds : List D} {t : D}
theorem ev_fzL (hv : ρ[i]? = some (some (.lst ds))) : fFz i ρ μ = .ok (.lst ds) μ := by unfold fFz; rw [ev_v hv]; rfl
theorem ev_fzS (hv : ρ[i]? = some (some (.sq ds))) : fFz i ρ μ = .ok (.sq ds) μ := by unfold fFz; rw [ev_v hv]; rfl
theorem wk_fz (h : μ[n]? = some (.fz (.lst ds))) : wkD (.obj n) μ = some ⟨ds, some (n, .fz (.lst ds))⟩ := by simp [wkD, h]
end
theorem lk_tup {is : List Nat} {d : D} {ρ : Env} {o : Option Env} (h : aTup is d ρ = o) : aTup is d ρ = o := h
theorem ok_cv {f : R D} {d d' : D} {μ μ' : Mem} (h : f = R.ok d μ) (hd : d = d') (hm : μ = μ') : f = R.ok d' μ' := by subst hd; subst hm; exact h
section
variable {α β : Type} {gd : Grd} {a : Tgt} {e : Sem} {k : SemS} {ρ : Env} {i : SemI} {own : List Nat} {μ μ1 : Mem} {Q : RS → Prop}
/-- a comprehension whose items are told one by one, with what the memory does -/
theorem lcL_J {toD : α → D} {toE : β → D} (J : List α → List β → Mem → Prop) : ∀ (xs : List α) (ys0 : List β) {μ : Mem}, J xs ys0 μ → (∀ x rest ys μ, J (x :: rest) ys μ → ∃ ρ1, a (toD x) ρ = some ρ1 ∧ ∃ y μ2, e ρ1 μ = .ok (toE y) μ2 ∧ gd.ok μ2 ∧ J rest (ys ++ [y]) μ2) →
    ∃ ys μ', lcL gd a tYes e ρ (xs.map toD) μ = .ok (ys.map toE) μ' ∧ J [] (ys0 ++ ys) μ'
  | [], ys0, μ, h0, _ => ⟨[], μ, rfl, by rw [List.append_nil]; exact h0⟩
  | x :: xs, ys0, μ, h0, hs => by
    obtain ⟨ρ1, h1, y, μ2, h2, h3, h4⟩ := hs x xs ys0 μ h0
    obtain ⟨ys, μ', g1, g2⟩ := lcL_J J xs (ys0 ++ [y]) h4 hs
    refine ⟨y :: ys, μ', ?_, by rw [List.append_assoc] at g2; exact g2⟩
    simp only [List.map_cons, lcL, h1, tYes, R.bindB, if_true, h2, lcG, if_pos h3, g1]
theorem fLc_J {toD : α → D} {toE : β → D} {xs : List α} (J : List α → List β → Mem → Prop) (hi : i ρ μ = .ok ⟨xs.map toD, gd⟩ μ1) (hl : xs.length ≤ 1000) (h0 : J xs [] μ1)
    (hs : ∀ x rest ys μ, J (x :: rest) ys μ → ∃ ρ1, a (toD x) (wipeD ρ own) = some ρ1 ∧ ∃ y μ2, e ρ1 μ = .ok (toE y) μ2 ∧ gd.ok μ2 ∧ J rest (ys ++ [y]) μ2) :
    ∃ ys μ', fLc i a tYes e own ρ μ = .ok (ys.map toE) μ' ∧ J [] ys μ' := by
  obtain ⟨ys, μ', g1, g2⟩ := lcL_J (gd := gd) (a := a) (e := e) (ρ := wipeD ρ own) (toD := toD) (toE := toE) J xs [] h0 hs
  refine ⟨ys, μ', ?_, by simpa using g2⟩
  unfold fLc
  rw [hi, bind_ok, if_pos (by rw [List.length_map]; exact sl1000 hl)]
  exact g1
theorem WS.lcT {toD : α → D} {toE : β → D} {xs : List α} {v : Nat} (J : List α → List β → Mem → Prop) (hi : i ρ μ = .ok ⟨xs.map toD, gd⟩ μ1) (hl : xs.length ≤ 1000) (h0 : J xs [] μ1)
    (hs : ∀ x rest ys μ, J (x :: rest) ys μ → ∃ ρ1, a (toD x) (wipeD ρ own) = some ρ1 ∧ ∃ y μ2, e ρ1 μ = .ok (toE y) μ2 ∧ gd.ok μ2 ∧ J rest (ys ++ [y]) μ2)
    (hk : ∀ ys μ', J [] ys μ' → WS k (ρ.set v (some (.lst (ys.map toE)))) μ' Q) : WS (sSeq (sSet v (fTree (fLc i a tYes e own))) k) ρ μ Q := by
  obtain ⟨ys, μ', g1, g2⟩ := fLc_J J hi hl h0 hs
  exact .set (tree_eq g1) (hk ys μ' g2)
theorem WS.lcB {toD : α → D} {toE : β → D} {xs : List α} {v : Nat} (J : List α → List β → Mem → Prop) (hi : i ρ μ = .ok ⟨xs.map toD, gd⟩ μ1) (hl : xs.length ≤ 1000) (h0 : J xs [] μ1)
    (hs : ∀ x rest ys μ, J (x :: rest) ys μ → ∃ ρ1, a (toD x) (wipeD ρ own) = some ρ1 ∧ ∃ y μ2, e ρ1 μ = .ok (toE y) μ2 ∧ gd.ok μ2 ∧ J rest (ys ++ [y]) μ2)
    (hk : ∀ ys μ', J [] ys μ' → WS k (ρ.set v (some (.obj μ'.length))) (μ' ++ [.lst (ys.map toE)]) Q) : WS (sSeq (sSet v (fBox (fLc i a tYes e own))) k) ρ μ Q := by
  obtain ⟨ys, μ', g1, g2⟩ := fLc_J J hi hl h0 hs
  exact .set (box_eq g1) (hk ys μ' g2)
theorem WS.popAt {v n : Nat} {ds : List D} {j : Nat} {x : Sem} (ho : ρ[v]? = some (some (.obj n))) (h : μ[n]? = some (.lst ds)) (hx : x ρ μ = .ok (.int (j : Int)) μ) (hj : j < ds.length) (r : WS k ρ (μ.set n (.lst (ds.eraseIdx j))) Q) : WS (sSeq (sDrop (fMtT "list" dPopAt (fV v) (fCons x fNil))) k) ρ μ Q := by
  refine .drop (d := ds[j]) ?_ r
  rw [mt_list (ev_v ho) (lst_obj h), cons1_eq hx, bind_ok]
  unfold dPopAt
  have e : cellL μ (.obj n) = some (n, ds) := by simp [cellL, h]
  have e2 : L2.ixN ds.length (j : Int) = some j := ixN_nn (j := (j : Int)) (by omega) (by simpa using hj) |>.trans (by rw [Int.toNat_natCast])
  simp only [e, e2, List.getElem?_eq_getElem hj]
  rfl
end
theorem ev_rgc {ρ : Env} {μ : Mem} {j : Int} (h0 : 0 ≤ j) (hn : j < 2 ^ 62) : iRg1 (fC (.int j)) ρ μ = .ok ⟨(List.range j.toNat).map fun (i : Nat) => D.int (i : Int), none⟩ μ := by
  have := rg1_ok (a := fC (.int j)) (ρ := ρ) (μ := μ) (μ' := μ) (n := j.toNat) (by rw [Int.toNat_of_nonneg h0]; rfl) (by omega)
  exact this
section
variable {gd : Grd} {a : Tgt} {b k : SemS} {i : SemI} {ρ : Env} {μ μ1 : Mem} {Q : RS → Prop}
/-- a loop over data as they stand -/
theorem WS.forD {ds : List D} (I : Nat → Env → Mem → Prop) (hi : i ρ μ = .ok ⟨ds, gd⟩ μ1) (h0 : I 0 ρ μ1)
    (hs : ∀ (j : Nat) (x : D) (ρ : Env) (μ : Mem) (Q' : RS → Prop), ds[j]? = some x → (∀ ρ μ, gd.ok μ → I (j + 1) ρ μ → Q' (.next ρ μ)) → (∀ d μ, Q (.ret d μ) → Q' (.ret d μ)) → I j ρ μ → ∃ ρ1, a x ρ = some ρ1 ∧ WS b ρ1 μ Q')
    (hk : ∀ ρ μ, I ds.length ρ μ → WS k ρ μ Q) : WS (sSeq (sFor i a b) k) ρ μ Q :=
  .forA (toD := id) (xs := ds) I (by rw [List.map_id]; exact hi) h0 hs hk
end
theorem clean_law (μ' : Mem) : ∃ μ, cleanD [] (.ret (.bl true) μ') = .ok (.bl true) μ := by
  unfold cleanD
  by_cases h : μ'.length = ([] : Mem).length
  · exact ⟨_, if_pos h⟩
  · refine ⟨μ'.take 0, ?_⟩
    simp only [h, if_false]
    exact if_pos ⟨Nat.zero_le _, rfl, rfl⟩
end Z

namespace Z
open PySem PySem.Spec PyProof.Rows L2
/-! ### a op1 b op2 c op3 d -/
def tLink (r : R2) (x : V) (σ : L2.St) (tb : TE) (k : V → Hp → VK → Prop) (H : Hp) (Q : VK) : Prop := tb σ H fun y H2 => r x y H2 fun z H3 => ∃ b, z = .bl b ∧ (if b = true then k y H3 Q else Q (.bl false) H3)
def tCh3 (r r' r'' : R2) (ta tb tc td : TE) : TE := fun σ H Q => ta σ H fun x H1 => tb σ H1 fun y H2 => r x y H2 fun z H3 => ∃ k, z = .bl k ∧
  (if k = true then tc σ H3 fun w' H4 => r' y w' H4 fun z' H5 => ∃ k', z' = .bl k' ∧ (if k' = true then td σ H5 fun u' H6 => r'' w' u' H6 Q else Q (.bl false) H5) else Q (.bl false) H3)
section
variable {X : Cx} {a b c d : Expr} {ta tb tc td : TE} {pos : Pos}
theorem pe_chain3 {op op' op'' : CmpOp} {r r' r'' : R2} (ho : OpR X (compareOp op) r) (ho' : OpR X (compareOp op') r') (ho'' : OpR X (compareOp op'') r'') (ha : PE X a ta) (hb : PE X b tb) (hc : PE X c tc) (hd : PE X d td)
    (hm : lastMarks [op, op', op''] [b, c, d] = false := by with_unfolding_all rfl) : PE X (.Compare a [op, op', op''] [b, c, d] pos) (tCh3 r r' r'' ta tb tc td) := by
  refine ⟨fun pins s σ H Q I h => ?_⟩
  refine Compare_chain (thn (ha.run pins s σ H _ I h) fun v s1 ⟨x, H1, I1, r1, q1⟩ => chain_link (thn (hb.run pins s1 σ H1 _ I1 q1) fun u s2 ⟨y, H2, I2, r2, q2⟩ =>
    thn (ho pins s2 σ H2 x y v u _ I2 r1 r2 q2) fun d s3 ⟨z, H3, I3, r3, k, e, q3⟩ => ?_)) hm
  subst e
  cases r3
  refine wpAny_truthy_bool ?_
  cases k with
  | false => exact ite_ff ⟨.bl false, H3, I3, rfl, q3⟩
  | true =>
    refine ite_tt (chain_link (thn (hc.run pins s3 σ H3 _ I3 q3) fun w' s4 ⟨z', H4, I4, r4, q4⟩ => thn (ho' pins s4 σ H4 y z' u w' _ I4 r2 r4 q4) fun d' s5 ⟨z5, H5, I5, r5, k', e', q5⟩ => ?_))
    subst e'
    cases r5
    refine wpAny_truthy_bool ?_
    cases k' with
    | false => exact ite_ff ⟨.bl false, H5, I5, rfl, q5⟩
    | true => exact ite_tt (chain_last (thn (hd.run pins s5 σ H5 _ I5 q5) fun w6 s6 ⟨z6, H6, I6, r6, q6⟩ => ho'' pins s6 σ H6 z' z6 w' w6 Q I6 r4 r6 q6))
theorem pt_chain3 {op op' op'' : CmpOp} {r r' r'' : R2} (ho : OpR X (compareOp op) r) (ho' : OpR X (compareOp op') r') (ho'' : OpR X (compareOp op'') r'') (ha : PE X a ta) (hb : PE X b tb) (hc : PE X c tc) (hd : PE X d td)
    (hm : lastMarks [op, op', op''] [b, c, d] = false := by with_unfolding_all rfl) : PT X (.Compare a [op, op', op''] [b, c, d] pos) (tTest (tCh3 r r' r'' ta tb tc td)) := by
  refine ⟨fun pins s σ H Q I h => ?_⟩
  refine isTrue_chain (thn (ha.run pins s σ H _ I h) fun v s1 ⟨x, H1, I1, r1, q1⟩ => test_link (thn (hb.run pins s1 σ H1 _ I1 q1) fun u s2 ⟨y, H2, I2, r2, q2⟩ =>
    thn (ho pins s2 σ H2 x y v u _ I2 r1 r2 q2) fun d s3 ⟨z, H3, I3, r3, k, e, q3⟩ => ?_)) hm
  subst e
  cases r3
  refine wpAny_truthy_bool ?_
  cases k with
  | false =>
    obtain ⟨k', e', q'⟩ := q3
    cases e'
    exact ite_ff ⟨H3, I3, q'⟩
  | true =>
    refine ite_tt (test_link (thn (hc.run pins s3 σ H3 _ I3 q3) fun w' s4 ⟨z', H4, I4, r4, q4⟩ => thn (ho' pins s4 σ H4 y z' u w' _ I4 r2 r4 q4) fun d' s5 ⟨z5, H5, I5, r5, k', e', q5⟩ => ?_))
    subst e'
    cases r5
    refine wpAny_truthy_bool ?_
    cases k' with
    | false =>
      obtain ⟨k2, e2, q'⟩ := q5
      cases e2
      exact ite_ff ⟨H5, I5, q'⟩
    | true =>
      refine ite_tt (test_last (thn (hd.run pins s5 σ H5 _ I5 q5) fun w6 s6 ⟨z6, H6, I6, r6, q6⟩ => thn (ho'' pins s6 σ H6 z' z6 w' w6 _ I6 r4 r6 q6) fun d7 s7 ⟨z7, H7, I7, r7, k2, e2, q7⟩ => ?_))
      subst e2
      cases r7
      exact wpAny_truthy_bool ⟨H7, I7, q7⟩
end
def fChain3 (c c' c'' : Cm) (a b e f : Sem) : Sem := fun ρ μ => (a ρ μ).bind fun x μ => (b ρ μ).bind fun y μ => (R.ofP μ (c x y μ)).bind fun k μ => if k = true then ((e ρ μ).bind fun z μ => (R.ofP μ (c' y z μ)).bind fun k μ => if k = true then (f ρ μ).bind fun w μ => R.ofP μ ((c'' z w μ).map D.bl) else .ok (.bl false) μ) else .ok (.bl false) μ
def tChain3 (c c' c'' : Cm) (a b e f : Sem) : SemT := fun ρ μ => (a ρ μ).bind fun x μ => (b ρ μ).bind fun y μ => (R.ofP μ (c x y μ)).bind fun k μ => if k = true then ((e ρ μ).bind fun z μ => (R.ofP μ (c' y z μ)).bind fun k μ => if k = true then (f ρ μ).bind fun w μ => R.ofP μ (c'' z w μ) else .ok false μ) else .ok false μ
section
variable {X : Cx} {F : Fx} {W : WX} {a b c d e : Expr} {fa fb fc fd : Sem} {pos : Pos}
theorem se_chain3 {op op' op'' : CmpOp} {cm cm' cm'' : Cm} (ho : OpR X (compareOp op) (rB2 F cm)) (ho' : OpR X (compareOp op') (rB2 F cm')) (ho'' : OpR X (compareOp op'') (rB2 F cm'')) (ha : SE X F W a fa) (hb : SE X F W b fb) (hc : SE X F W c fc) (hd : SE X F W d fd) (hm : lastMarks [op, op', op''] [b, c, d] = false := by rfl) : SE X F W (.Compare a [op, op', op''] [b, c, d] pos) (fChain3 cm cm' cm'' fa fb fc fd) :=
  PE.imp (pe_chain3 ho ho' ho'' ha hb hc hd hm) fun σ H Q h => tW.bind h fun g ρ x v e m w r o =>
    ⟨g, ρ, e, rfl, m, w, o.bind fun y g1 u m1 x1 r1 o1 => by
      obtain ⟨k, e2, o2⟩ := ofP_bind o1
      refine ⟨g1, x, y, k, x1.fx.trans e, rfl, m1, r.mono x1, r1, e2, k, rfl, ?_⟩
      cases k with
      | true =>
        refine iteT ⟨g1, ρ, x1.fx.trans e, rfl, m1, w.mono x1, ?_⟩
        have o3 : Out Rep (fun c d H' => W c d σ H') g1 ((fc ρ g1.μ).bind fun z μ => (R.ofP μ (cm' y z μ)).bind fun k μ => if k = true then (fd ρ μ).bind fun w μ => R.ofP μ ((cm'' z w μ).map D.bl) else .ok (.bl false) μ) Q := o2
        refine o3.bind fun z g2 w2 m2 x2 r2 o4 => ?_
        obtain ⟨k2, e3, o5⟩ := ofP_bind o4
        refine ⟨g2, y, z, k2, x2.fx.trans (x1.fx.trans e), rfl, m2, r1.mono x2, r2, e3, k2, rfl, ?_⟩
        cases k2 with
        | true =>
          refine iteT ⟨g2, ρ, x2.fx.trans (x1.fx.trans e), rfl, m2, (w.mono x1).mono x2, ?_⟩
          have o6 : Out Rep (fun c d H' => W c d σ H') g2 ((fd ρ g2.μ).bind fun w μ => R.ofP μ ((cm'' z w μ).map D.bl)) Q := o5
          refine o6.bind fun z3 g3 w3 m3 x3 r3 o7 => ?_
          obtain ⟨k3, e4, q⟩ := ofP_map o7 m3
          exact ⟨g3, z, z3, k3, x3.fx.trans (x2.fx.trans (x1.fx.trans e)), rfl, m3, r2.mono x3, r3, e4, q⟩
        | false => exact iteF (Out.here (a := D.bl false) o5 m2 rfl)
      | false => exact iteF (Out.here (a := D.bl false) o2 m1 rfl)⟩
theorem st_chain3 {op op' op'' : CmpOp} {cm cm' cm'' : Cm} (ho : OpR X (compareOp op) (rB2 F cm)) (ho' : OpR X (compareOp op') (rB2 F cm')) (ho'' : OpR X (compareOp op'') (rB2 F cm'')) (ha : SE X F W a fa) (hb : SE X F W b fb) (hc : SE X F W c fc) (hd : SE X F W d fd) (hm : lastMarks [op, op', op''] [b, c, d] = false := by rfl) : ST X F W (.Compare a [op, op', op''] [b, c, d] pos) (tChain3 cm cm' cm'' fa fb fc fd) :=
  PT.imp (pt_chain3 ho ho' ho'' ha hb hc hd hm) fun σ H Q h => tW.bind h fun g ρ x v e m w r o =>
    ⟨g, ρ, e, rfl, m, w, o.bind fun y g1 u m1 x1 r1 o1 => by
      obtain ⟨k, e2, o2⟩ := ofP_bind o1
      refine ⟨g1, x, y, k, x1.fx.trans e, rfl, m1, r.mono x1, r1, e2, k, rfl, ?_⟩
      cases k with
      | true =>
        refine iteT ⟨g1, ρ, x1.fx.trans e, rfl, m1, w.mono x1, ?_⟩
        have o3 : Out RepB (fun c d H' => W c d σ H') g1 ((fc ρ g1.μ).bind fun z μ => (R.ofP μ (cm' y z μ)).bind fun k μ => if k = true then (fd ρ μ).bind fun w μ => R.ofP μ (cm'' z w μ) else .ok false μ) Q := o2
        refine o3.bind fun z g2 w2 m2 x2 r2 o4 => ?_
        obtain ⟨k2, e3, o5⟩ := ofP_bind o4
        refine ⟨g2, y, z, k2, x2.fx.trans (x1.fx.trans e), rfl, m2, r1.mono x2, r2, e3, k2, rfl, ?_⟩
        cases k2 with
        | true =>
          refine iteT ⟨g2, ρ, x2.fx.trans (x1.fx.trans e), rfl, m2, (w.mono x1).mono x2, ?_⟩
          have o6 : Out RepB (fun c d H' => W c d σ H') g2 ((fd ρ g2.μ).bind fun w μ => R.ofP μ (cm'' z w μ)) Q := o5
          refine o6.bind fun z3 g3 w3 m3 x3 r3 o7 => ?_
          obtain ⟨k3, e4, q⟩ := ofP_t o7 m3
          exact ⟨g3, z, z3, k3, x3.fx.trans (x2.fx.trans (x1.fx.trans e)), rfl, m3, r2.mono x3, r3, e4, k3, rfl, q⟩
        | false => exact iteF ⟨false, rfl, Out.here (a := false) o5 m2 rfl⟩
      | false => exact iteF ⟨false, rfl, Out.here (a := false) o2 m1 rfl⟩⟩
end
section
variable {ρ : Env} {μ : Mem} {f g x y : Sem} {d e b w : D} {k k' k'' : Bool} {c c' c'' : Cm}
theorem ev_tch3 (h : f ρ μ = .ok d μ) (h2 : g ρ μ = .ok e μ) (hc : c d e μ = some k) (h3 : x ρ μ = .ok b μ) (hc' : c' e b μ = some k') (h4 : y ρ μ = .ok w μ) (hc'' : c'' b w μ = some k'') : tChain3 c c' c'' f g x y ρ μ = .ok (k && (k' && k'')) μ := by
  unfold tChain3
  rw [h, bind_ok, h2, bind_ok, hc, ofP_some, bind_ok]
  cases k with
  | false => rfl
  | true =>
    rw [if_pos rfl, h3, bind_ok, hc', ofP_some, bind_ok]
    cases k' with
    | false => rfl
    | true => rw [if_pos rfl, h4, bind_ok, hc'']; rfl
theorem ev_fch3 (h : f ρ μ = .ok d μ) (h2 : g ρ μ = .ok e μ) (hc : c d e μ = some k) (h3 : x ρ μ = .ok b μ) (hc' : c' e b μ = some k') (h4 : y ρ μ = .ok w μ) (hc'' : c'' b w μ = some k'') : fChain3 c c' c'' f g x y ρ μ = .ok (.bl (k && (k' && k''))) μ := by
  unfold fChain3
  rw [h, bind_ok, h2, bind_ok, hc, ofP_some, bind_ok]
  cases k with
  | false => rfl
  | true =>
    rw [if_pos rfl, h3, bind_ok, hc', ofP_some, bind_ok]
    cases k' with
    | false => rfl
    | true => rw [if_pos rfl, h4, bind_ok, hc'']; rfl
theorem lf_int_bl {b : Bool} {μ : Mem} : dInt [.bl b] μ = .ok (.int (if b then 1 else 0)) μ := rfl
theorem lf_is_bl {a b : Bool} {μ : Mem} : dIs (.bl a) (.bl b) μ = some (decide (a = b)) := rfl
theorem lf_isn_bl {a b : Bool} {μ : Mem} : dIsNot (.bl a) (.bl b) μ = some (!decide (a = b)) := rfl
end
end Z

namespace Z
open PySem PySem.Spec
theorem lf_ixs {ds : List D} {k : Nat} {d : D} {μ : Mem} (h : ds[k]? = some d) : dIx (.sq ds) (.int (k : Int)) μ = .ok d μ := by rw [ix_sq, atI_nat h]; rfl
theorem lf_ixsz {ds : List D} {j : Int} {d : D} {μ : Mem} (h0 : 0 ≤ j) (h : ds[j.toNat]? = some d) : dIx (.sq ds) (.int j) μ = .ok d μ := by rw [ix_sq, atI_nn h0 h]; rfl
/-! ### data sorted, in types -/
def srtG {α : Type} (e : α → D) (un : D → Option α) (xs : List α) : List α := (sortD (xs.map e)).filterMap un
section
variable {α : Type} {e : α → D} {un : D → Option α} (hu : ∀ x, un (e x) = some x)
include hu
theorem un_map (xs : List α) : (xs.map e).filterMap un = xs := by
  induction xs with
  | nil => rfl
  | cons x xs ih => simp [hu, ih]
theorem srtG_perm (xs : List α) : (srtG e un xs).Perm xs := by
  have := (sortD_perm (xs.map e)).filterMap un
  rwa [un_map hu] at this
theorem map_un : ∀ l : List D, (∀ d ∈ l, ∃ x, d = e x) → (l.filterMap un).map e = l
  | [], _ => rfl
  | d :: l, h => by
    obtain ⟨x, rfl⟩ := h d List.mem_cons_self
    simp [hu, map_un l fun y hy => h y (List.mem_cons_of_mem _ hy)]
theorem srtG_map (xs : List α) : (srtG e un xs).map e = sortD (xs.map e) := map_un hu _ fun d hd => by
  obtain ⟨x, _, rfl⟩ := List.mem_map.mp ((sortD_perm _).mem_iff.mp hd)
  exact ⟨x, rfl⟩
end
/-- pairs of ints -/
abbrev eP (p : Int × Int) : D := .tup [.int p.1, .int p.2]
def uP : D → Option (Int × Int)
  | .tup [.int a, .int b] => some (a, b)
  | _ => none
theorem uP_eP (p : Int × Int) : uP (eP p) = some p := rfl
def srtP (xs : List (Int × Int)) : List (Int × Int) := srtG eP uP xs
theorem srtP_perm (xs : List (Int × Int)) : (srtP xs).Perm xs := srtG_perm uP_eP xs
theorem frm_pairs {xs : List (Int × Int)} (h : xs ≠ []) : frmOk (xs.map eP) = some (.tups [false, false]) := by
  cases xs with
  | nil => exact absurd rfl h
  | cons x xs =>
    have hf : ∀ p : Int × Int, frmD (eP p) = some (.tups [false, false]) := fun p => by simp [frmD, keyIs, keyI, shI]
    simp only [List.map_cons, frmOk, hf]
    rw [if_pos]
    rw [List.all_eq_true]
    intro d hd
    obtain ⟨p, _, rfl⟩ := List.mem_map.mp hd
    simp [hf]
theorem sort_pairs {xs : List (Int × Int)} {d : D} {μ : Mem} (hd : lstD μ d = some (xs.map eP)) : dSort [d] μ = .ok ((srtP xs).map eP) μ := by
  unfold srtP
  rw [srtG_map uP_eP]
  unfold dSort
  simp only [hd]
  by_cases h : xs = []
  · subst h; rfl
  · rw [frm_pairs h]
    simp
theorem eqb_pair (p q : Int × Int) : D.eqb (eP p) (eP q) = true ↔ p = q := by
  rw [eqb_tup2]
  simp only [Bool.and_eq_true, eqb_int']
  exact ⟨fun h => Prod.ext h.1 h.2, fun h => by rw [h]; exact ⟨rfl, rfl⟩⟩
theorem fit_ints (n : Nat) (xs : List Int) : D.fit (n + 1) (.lst (xs.map D.int)) = true := by
  simp only [D.fit]; exact fits_map _ _ fun x _ => by cases n <;> rfl
theorem fit_nats (n : Nat) (xs : List Nat) : D.fit (n + 1) (.lst (xs.map fun (k : Nat) => D.int (k : Int))) = true := by
  simp only [D.fit]; exact fits_map _ _ fun x _ => by cases n <;> rfl
theorem fit_pairs (n : Nat) (xs : List (Int × Int)) : D.fit (n + 2) (.lst (xs.map eP)) = true := by
  simp only [D.fit]; exact fits_map _ _ fun x _ => by cases n <;> rfl
/-- lists of numbers compared -/
theorem ne_nats (xs ys : List Nat) (μ : Mem) : dNe (.lst (xs.map fun (k : Nat) => D.int (k : Int))) (.lst (ys.map fun (k : Nat) => D.int (k : Int))) μ = some (!decide (xs = ys)) := by
  rw [lf_ne rfl rfl (fit_nats 8 _) (fit_nats 8 _)]
  congr 2
  rw [Bool.eq_iff_iff, eqb_lmap eqb_nat']; simp
theorem eq_nats (xs ys : List Nat) (μ : Mem) : dEq (.lst (xs.map fun (k : Nat) => D.int (k : Int))) (.lst (ys.map fun (k : Nat) => D.int (k : Int))) μ = some (decide (xs = ys)) := by
  rw [lf_eq rfl rfl (fit_nats 8 _) (fit_nats 8 _)]
  congr 1
  rw [Bool.eq_iff_iff, eqb_lmap eqb_nat']; simp
theorem ne_pairs (xs ys : List (Int × Int)) (μ : Mem) : dNe (.lst (xs.map eP)) (.lst (ys.map eP)) μ = some (!decide (xs = ys)) := by
  rw [lf_ne rfl rfl (fit_pairs 7 _) (fit_pairs 7 _)]
  congr 2
  rw [Bool.eq_iff_iff, eqb_lmap eqb_pair]; simp
end Z

namespace Z
open PySem PySem.Spec
section
variable {ρ : Env} {μ μ1 μ' : Mem} {v n j : Nat} {ds : List D} {d : D} {x : Sem} {t : SemT} {f g : Sem}
theorem ev_popAt (ho : ρ[v]? = some (some (.obj n))) (h : μ[n]? = some (.lst ds)) (hx : x ρ μ = .ok (.int (j : Int)) μ) (hd : ds[j]? = some d) : fMtT "list" dPopAt (fV v) (fCons x fNil) ρ μ = .ok d (μ.set n (.lst (ds.eraseIdx j))) := by
  have hj := (List.getElem?_eq_some_iff.mp hd).1
  rw [mt_list (ev_v ho) (lst_obj h), cons1_eq hx, bind_ok]
  unfold dPopAt
  have e : cellL μ (.obj n) = some (n, ds) := by simp [cellL, h]
  have e2 : L2.ixN ds.length (j : Int) = some j := (ixN_nn (j := (j : Int)) (by omega) (by simpa using hj)).trans (by rw [Int.toNat_natCast])
  simp only [e, e2, hd]
  rfl
theorem ev_popAt0 {e : D} {es : List D} (ho : ρ[v]? = some (some (.obj n))) (h : μ[n]? = some (.lst (e :: es))) : fMtT "list" dPopAt (fV v) (fCons (fC (.int 0)) fNil) ρ μ = .ok e (μ.set n (.lst es)) := ev_popAt (j := 0) ho h rfl rfl
theorem ev_pop {e : D} {es : List D} (ho : ρ[v]? = some (some (.obj n))) (h : μ[n]? = some (.lst (es ++ [e]))) : fMtT "list" dPop (fV v) fNil ρ μ = .ok e (μ.set n (.lst es)) := by
  rw [mt_list (ev_v ho) (lst_obj h), nil_eq, bind_ok]
  unfold dPop
  have e1 : cellL μ (.obj n) = some (n, es ++ [e]) := by simp [cellL, h]
  simp only [e1]
  rw [show (es ++ [e])[(es ++ [e]).length - 1]? = some e by simp]
  simp only [List.dropLast_concat]
  rfl
theorem ev_fifT (h : t ρ μ = .ok true μ1) (h1 : f ρ μ1 = .ok d μ') : fIf t f g ρ μ = .ok d μ' := (fif_t h).trans h1
theorem ev_fifF (h : t ρ μ = .ok false μ1) (h1 : g ρ μ1 = .ok d μ') : fIf t f g ρ μ = .ok d μ' := (fif_f h).trans h1
theorem lf_max1 {l : List Int} : dMax1 [.lst (.int 0 :: l.map D.int)] μ = .ok (.int (l.foldl max 0)) μ := by
  unfold dMax1
  have e : (lstD μ (.lst (.int 0 :: l.map D.int))).bind intsD = some (0 :: l) := ints_D (0 :: l)
  simp only [e, Option.bind_some, maxI, Option.map_some]
  rfl
theorem lf_max1' {i : Int} {l : List Int} : dMax1 [.lst ((i :: l).map D.int)] μ = .ok (.int (l.foldl max i)) μ := by
  unfold dMax1
  have e : (lstD μ (.lst ((i :: l).map D.int))).bind intsD = some (i :: l) := ints_D (i :: l)
  simp only [e, Option.bind_some, maxI, Option.map_some]
  rfl
theorem lf_min1' {i : Int} {l : List Int} : dMin1 [.lst ((i :: l).map D.int)] μ = .ok (.int (l.foldl min i)) μ := by
  unfold dMin1
  have e : (lstD μ (.lst ((i :: l).map D.int))).bind intsD = some (i :: l) := ints_D (i :: l)
  simp only [e, Option.bind_some, minI, Option.map_some]
  rfl
theorem lf_repr_bl {b : Bool} : dRepr [.bl b] μ = .ok (.str (if b then "True" else "False")) μ := rfl
end
theorem foldl_max_perm {l m : List Int} (h : l.Perm m) (a : Int) : l.foldl max a = m.foldl max a := by
  induction h generalizing a with
  | nil => rfl
  | cons x _ ih => exact ih _
  | swap x y l => simp only [List.foldl_cons]; congr 1; omega
  | trans _ _ ih1 ih2 => exact (ih1 a).trans (ih2 a)
theorem repr_ne (a b : Bool) (μ : Mem) : dNe (.str (if a then "True" else "False")) (.str (if b then "True" else "False")) μ = some (!(a == b)) := by
  rw [lf_ne_str]
  cases a <;> cases b <;> simp <;> decide +kernel
section
variable {cat : Str → Option Bool} {i : Nat} {body suite k : SemS} {ρ : Env} {μ μ' : Mem} {d : D} {Q : RS → Prop}
theorem WS.tryOnly_ret (hb : WS body ρ μ fun r => r = .ret d μ') (r : Q (.ret d μ')) : WS (sSeq (sTryOnly cat body suite) k) ρ μ Q := by
  unfold WS at hb ⊢
  unfold sSeq sTryOnly
  rw [hb]; exact r
theorem WS.tryAs_retOk (hb : WS body ρ μ fun r => r = .ret d μ') (r : Q (.ret d μ')) : WS (sSeq (sTryAs cat i body suite) k) ρ μ Q := by
  unfold WS at hb ⊢
  unfold sSeq sTryAs
  rw [hb]; exact r
end
section
variable {α : Type} {gd : Grd} {a : Tgt} {b k : SemS} {i : SemI} {ρ : Env} {μ μ1 : Mem} {Q : RS → Prop}
/-- a loop with whiles in it: what is bad is not wanted -/
theorem WS.forW {toD : α → D} {xs : List α} (I : Nat → Env → Mem → Prop) (hi : i ρ μ = .ok ⟨xs.map toD, gd⟩ μ1) (h0 : I 0 ρ μ1)
    (hs : ∀ (j : Nat) (x : α) (ρ : Env) (μ : Mem) (Q' : RS → Prop), xs[j]? = some x → (∀ ρ μ, gd.ok μ → I (j + 1) ρ μ → Q' (.next ρ μ)) → (∀ d μ, Q (.ret d μ) → Q' (.ret d μ)) → (Q' .bad → Q .bad) → I j ρ μ → ∃ ρ1, a (toD x) ρ = some ρ1 ∧ WS b ρ1 μ Q')
    (hk : ∀ ρ μ, I xs.length ρ μ → WS k ρ μ Q) : WS (sSeq (sFor i a b) k) ρ μ Q :=
  .for I hi h0 (fun j x ρ μ hx hI => hs j x ρ μ _ hx (fun _ _ g h => ⟨g, h⟩) (fun _ _ h => h) (fun h => h) hI) hk
/-- a while loop whose turns are all of one kind: n goes down -/
theorem WS.whileA {c : SemT} (I : Nat → Env → Mem → Prop) (n : Nat) (hq : ¬ Q .bad) (h0 : I n ρ μ)
    (hs : ∀ (n : Nat) (ρ : Env) (μ : Mem) (Q' : RS → Prop), (∀ ρ μ m', m' < n → I m' ρ μ → Q' (.next ρ μ)) → (∀ d μ, Q (.ret d μ) → Q' (.ret d μ)) → (Q' .bad → Q .bad) → I n ρ μ → ∃ q μ', c ρ μ = .ok q μ' ∧ (q = true → WS b ρ μ' Q') ∧ (q = false → WS k ρ μ' Q)) : WS (sSeq (sWhile c b) k) ρ μ Q :=
  .while I n hq h0 fun n ρ μ hI => hs n ρ μ _ (fun _ _ m' h1 h2 => ⟨m', h1, h2⟩) (fun _ _ h => h) (fun h => h) hI
end
end Z

namespace Z
open PySem PySem.Spec
section
variable {ρ : Env} {μ μ1 μ2 μ3 : Mem} {f : Sem} {lo hi : SemO} {d : D} {ds : List D}
theorem ev_slTz {j : Int} (h1 : f ρ μ = .ok d μ1) (h3 : hi ρ μ1 = .ok (some j) μ3) (h4 : lstD μ3 d = some ds) (h0 : 0 ≤ j) : fSlL f oNone hi ρ μ = .ok (ds.take j.toNat) μ3 :=
  ev_slT (k := j.toNat) h1 (by rw [h3, Int.toNat_of_nonneg h0]) h4
theorem ev_slDz {j : Int} (h1 : f ρ μ = .ok d μ1) (h3 : lo ρ μ1 = .ok (some j) μ3) (h4 : lstD μ3 d = some ds) (h0 : 0 ≤ j) : fSlL f lo oNone ρ μ = .ok (ds.drop j.toNat) μ3 :=
  ev_slD (k := j.toNat) h1 (by rw [h3, Int.toNat_of_nonneg h0]) h4
theorem ne_ints (i j : Int) : dNe (.int i) (.int j) μ = some (!decide (i = j)) := dNe_int i j μ
end
section
variable {ρ : Env} {μ μ1 μ2 : Mem} {t u : SemT} {f g : Sem} {d e : D} {ds : List D} {k : Bool}
theorem and_f0 (h : t ρ μ = .ok false μ1) : Z.tAnd t u ρ μ = .ok false μ1 := by unfold Z.tAnd; rw [h]; rfl
theorem and_t0 (h : t ρ μ = .ok true μ1) (h2 : u ρ μ1 = .ok k μ2) : Z.tAnd t u ρ μ = .ok k μ2 := by unfold Z.tAnd; rw [h, bind_ok, if_pos rfl]; exact h2
theorem or_t0 (h : t ρ μ = .ok true μ1) : Z.tOr t u ρ μ = .ok true μ1 := by unfold Z.tOr; rw [h]; rfl
theorem or_f0 (h : t ρ μ = .ok false μ1) (h2 : u ρ μ1 = .ok k μ2) : Z.tOr t u ρ μ = .ok k μ2 := by unfold Z.tOr; rw [h, bind_ok, if_neg (by simp)]; exact h2
theorem ev_repLz {j : Int} (h1 : f ρ μ = .ok d μ1) (h2 : g ρ μ1 = .ok (.int j) μ2) (ha : lstW μ2 d = some ds) (h0 : 0 ≤ j) (hl : ds.length * j.toNat ≤ 1000) (hk : j.toNat ≤ 1000) : fRep f g ρ μ = .ok (List.replicate j.toNat ds).flatten μ2 :=
  ev_repL (k := j.toNat) h1 (by rw [h2, Int.toNat_of_nonneg h0]) ha hl hk
theorem eq_obj {n : Nat} {x : D} (hx : x.isT = true) (h : μ[n]? = some (.lst ds)) (h3 : D.fit 9 x = true) (h4 : D.fit 9 (.lst ds) = true) : dEq x (.obj n) μ = some (D.eqb x (.lst ds)) := by
  have e : resD μ (.obj n) = .lst ds := by simp [resD, lstW, h]
  unfold dEq
  rw [res_tree hx, e, if_pos ⟨h3, h4⟩]
theorem obj_eq {n : Nat} {x : D} (hx : x.isT = true) (h : μ[n]? = some (.lst ds)) (h3 : D.fit 9 x = true) (h4 : D.fit 9 (.lst ds) = true) : dEq (.obj n) x μ = some (D.eqb (.lst ds) x) := by
  have e : resD μ (.obj n) = .lst ds := by simp [resD, lstW, h]
  unfold dEq
  rw [res_tree hx, e, if_pos ⟨h4, h3⟩]
theorem ne_nats_obj {n : Nat} {xs ys : List Nat} (h : μ[n]? = some (.lst (ys.map fun (k : Nat) => D.int (k : Int)))) : dNe (.lst (xs.map fun (k : Nat) => D.int (k : Int))) (.obj n) μ = some (!decide (xs = ys)) := by
  unfold dNe
  rw [eq_obj rfl h (fit_nats 8 _) (fit_nats 8 _)]
  simp only [Option.map_some]
  congr 2
  rw [Bool.eq_iff_iff, eqb_lmap eqb_nat']; simp
theorem eq_obj_nats {n : Nat} {xs ys : List Nat} (h : μ[n]? = some (.lst (xs.map fun (k : Nat) => D.int (k : Int)))) : dEq (.obj n) (.lst (ys.map fun (k : Nat) => D.int (k : Int))) μ = some (decide (xs = ys)) := by
  rw [obj_eq rfl h (fit_nats 8 _) (fit_nats 8 _)]
  congr 1
  rw [Bool.eq_iff_iff, eqb_lmap eqb_nat']; simp
end
end Z

set_option maxHeartbeats 1000000
namespace Z
open PySem PySem.Spec PyProof.Rows L2
variable {X : L2.Cx} {F : Fx} {W : WX} 
/-- a global that holds a builtin function is called -/
theorem se_bg {x : Str} {id : String} {op : DFn} {e : Expr} {es : List Expr} {f : SemA} {p pos : Pos} (hm : X.mg x = some (.builtin id)) (hc : CallR X (.builtin id) (rDA F op)) (cm : ∀ ds μ, (op ds μ).calm) (ha : SA X F W (e :: es) f) (hg : Gl X x := by rfl) (hd : (x == ("__debug__" : Str)) = false := by decide)
    (he : starEach (e :: es) X.env = (false, eval e X.env) :: starEach es X.env := by rfl) (hpl : (backTo pos (starEach es X.env)).any (·.1) = false := by rfl) : SE X F W (.Call (.Name x p) (e :: es) [] pos) (fBi op f) :=
  PE.imp (pe_callBfun hc hg hm ha hd he hpl) fun σ H Q h => tW.bind h fun g ρ ds vs e m w r o => ⟨g, ds, e, rfl, m, r, o.calm (cm _ _)⟩
end Z

namespace Z
open PySem PySem.Spec PyProof.Rows L2 PySem.W
/-! ### sorted, min, max of data of all kinds -/
/-- data that can be compared with each other -/
def alikeB (ds : List D) : Bool := ds.all fun a => ds.all fun b => alike a.py b.py
def tupB : PyData → Bool
  | .tuple (_ :: _) => true
  | _ => false
def oneB : PyData → Bool
  | .none => false
  | .tuple _ => false
  | _ => true
def sortableB (ds : List D) : Bool := ds.all (fun d => tupB d.py) || ds.all (fun d => oneB d.py)
def sortPy (ds : List D) : List D := ds.mergeSort (dataLe false D.py)
def dSortD : DFl := fun ds μ => match ds with
  | [x] => (match lstD μ x with
    | some ys => if D.fits 9 ys = true ∧ alikeB ys = true ∧ sortableB ys = true then .ok (sortPy ys) μ else .bad
    | none => .bad)
  | _ => .bad
theorem cm_sortD (ds : List D) (μ : Mem) : (dSortD ds μ).calm := by
  unfold dSortD
  split
  · split
    · split <;> trivial
    · trivial
  · trivial
theorem allAlike_of {ds : List D} (h : alikeB ds = true) : AllAlike (ds.map D.py) := by
  intro d hd d' hd'
  obtain ⟨a, ha, rfl⟩ := List.mem_map.mp hd
  obtain ⟨b, hb, rfl⟩ := List.mem_map.mp hd'
  exact List.all_eq_true.mp (List.all_eq_true.mp h a ha) b hb
theorem sortable_of {ds : List D} (h : sortableB ds = true) : PySem.W.Sortable (ds.map D.py) := by
  unfold sortableB at h
  rw [Bool.or_eq_true] at h
  rcases h with h | h
  · refine .inl fun d hd => ?_
    obtain ⟨a, ha, rfl⟩ := List.mem_map.mp hd
    have := List.all_eq_true.mp h a ha
    unfold tupB at this
    split at this
    · rename_i e; exact ⟨_, _, e⟩
    · cases this
  · refine .inr fun d hd => ?_
    obtain ⟨a, ha, rfl⟩ := List.mem_map.mp hd
    have := List.all_eq_true.mp h a ha
    refine ⟨fun e => ?_, fun xs e => ?_⟩ <;> (rw [e] at this; cases this)
/-- an item: as it is told and as it lies -/
def RIt (g : G) (v : Value) (b : V × D) : Prop := RelV b.1 v ∧ Rep g b.2 b.1
theorem each_in {g : G} : ∀ {its : List Value} {xs : List V} {ys : List D}, Vals xs its → RepL g ys xs → EachIs (RIt g) its (xs.zip ys)
  | its, [], ys, h, r => by
    cases h
    cases ys with
    | nil => exact .nil
    | cons y ys => obtain ⟨_, _, e, _⟩ := r; cases e
  | its, x :: xs, ys, h, r => by
    cases ys with
    | nil => cases r
    | cons y ys =>
      obtain ⟨v, vs, e, r1, r2⟩ := r
      cases e
      cases h with
      | cons h1 h2 => exact .cons ⟨h1, r1⟩ (each_in h2 r2)
theorem each_out {g : G} : ∀ {its : List Value} {bs : List (V × D)}, EachIs (RIt g) its bs → Vals (bs.map Prod.fst) its ∧ RepL g (bs.map Prod.snd) (bs.map Prod.fst)
  | _, _, .nil => ⟨.nil, .nil⟩
  | _, _, .cons h t => ⟨.cons h.1 (each_out t).1, .cons h.2 (each_out t).2⟩
theorem each_reads {X : L2.Cx} {pins : List (Addr × Obj)} {σ : L2.St} {g : G} {s : Shared} (I : L2.Inv X pins σ g.H s) (eK : g.K = X.K) : ∀ {its : List Value} {bs : List (V × D)}, EachIs (RIt g) its bs → (∀ b ∈ bs, D.fit 9 b.2 = true) → EachIs (fun v b => ∃ as, Reads s.heap v b.2.py as) its bs
  | _, _, .nil, _ => .nil
  | _, _, .cons h t, hf => .cons (Dp.reads I _ _ _ (eK ▸ fit_dp 9 _ _ (hf _ List.mem_cons_self) h.2) h.1) (each_reads I eK t fun b hb => hf b (List.mem_cons_of_mem _ hb))
section
variable {X : L2.Cx} {F : Fx}
theorem cf_sortD (hF : F.K = X.K) (hu : X.A.units + 70 < cLine) : CallR X (.builtin "sorted") (rDF F dSortD) := by
  intro pins s σ H vs us Q I r h
  obtain ⟨g, ds, e, rfl, m, rr, o⟩ := h
  have eK := fxK e hF
  unfold dSortD at o
  split at o
  · obtain ⟨v, rfl, rx⟩ := one_rep rr
    split at o
    · rename_i ys hl
      obtain ⟨p, xs, rfl, q, t⟩ := lstD_rep m rx hl
      split at o
      · rename_i hc
        obtain ⟨hc1, hc2, hc3⟩ := hc
        obtain ⟨its, rv, hl2, hz⟩ := I.list (eK ▸ q)
        rw [Vals.ref1 r]
        have hen : xs.length = ys.length := t.length.symm
        have e1 := each_in rv t
        have emap : (xs.zip ys).map (fun b => b.2.py) = ys.map D.py := by
          rw [show (fun b : V × D => b.2.py) = D.py ∘ Prod.snd from rfl, ← List.map_map, List.map_snd_zip (by omega)]
        have hfit : ∀ b ∈ xs.zip ys, D.fit 9 b.2 = true := fun b hb => by
          rw [D.fits_all] at hc1
          exact List.all_eq_true.mp hc1 _ (List.of_mem_zip hb).2
        refine sorted_data (bs := xs.zip ys) (enc := fun b => b.2.py) (R := RIt g) hl2.isList e1 (each_reads I eK e1 hfit) (by rw [emap]; exact allAlike_of hc2) (by rw [emap]; exact sortable_of hc3) (by rw [List.length_zip]; omega) (fun b hb => ?_) fun out hlo ho => ?_
        · have := (fit_plain 9 _ (hfit b hb)).2
          omega
        · obtain ⟨k1, k2⟩ := each_out ho
          obtain ⟨ep, he'⟩ := PyProof.Rows.sortedAll_at s.heap its out.toArray
          have es : ((xs.zip ys).mergeSort (dataLe false fun b => b.2.py)).map Prod.snd = sortPy ys := by
            have e5 := List.map_mergeSort (r := dataLe false fun b : V × D => b.2.py) (s := dataLe false D.py) (f := Prod.snd) (l := xs.zip ys) (fun a _ b _ => rfl)
            rw [List.map_snd_zip (by omega)] at e5
            exact e5
          rw [es] at k2
          refine ⟨.ref _, upd g.H (s.heap.objs.size + 1) (.lst (((xs.zip ys).mergeSort (dataLe false fun b => b.2.py)).map Prod.fst)), I.laid (t' := s.toks) (fun _ _ => PyProof.Rows.sortedAll_old) (Nat.le_succ _) ⟨?_, out, ep, k1, he'⟩, rfl, Out.here (a := _) o m k2 _ (I.hok.fresh (Nat.le_succ _))⟩
          rw [List.length_map, List.length_mergeSort, List.length_zip]; omega
      · exact o.elim
    · exact o.elim
  · exact o.elim
/-! ### min, max -/
def minPy (x : D) (xs : List D) : D := xs.foldl (fun a y => if dataLt y.py a.py then y else a) x
def maxPy (x : D) (xs : List D) : D := xs.foldl (fun a y => if dataLt a.py y.py then y else a) x
def oneNon (ds : List D) : Bool := ds.all fun d => match d with
  | .non => false
  | _ => true
def dMinD : DFn := fun ds μ => match ds with
  | [x] => (match lstD μ x with
    | some (y :: ys) => if D.fits 9 (y :: ys) = true ∧ alikeB (y :: ys) = true ∧ oneNon (y :: ys) = true then .ok (minPy y ys) μ else .bad
    | _ => .bad)
  | _ => .bad
def dMaxD : DFn := fun ds μ => match ds with
  | [x] => (match lstD μ x with
    | some (y :: ys) => if D.fits 9 (y :: ys) = true ∧ alikeB (y :: ys) = true ∧ oneNon (y :: ys) = true then .ok (maxPy y ys) μ else .bad
    | _ => .bad)
  | _ => .bad
theorem cm_minD (ds : List D) (μ : Mem) : (dMinD ds μ).calm := by
  unfold dMinD
  split
  · split
    · split <;> trivial
    · trivial
  · trivial
theorem cm_maxD (ds : List D) (μ : Mem) : (dMaxD ds μ).calm := by
  unfold dMaxD
  split
  · split
    · split <;> trivial
    · trivial
  · trivial
theorem alikeAll_of {ds : List D} (hf : D.fits 9 ds = true) (h : alikeB ds = true) (h2 : oneNon ds = true) : AlikeAll (D.pys ds) := by
  rw [D.pys_map]
  refine ⟨fun d hd d' hd' => allAlike_of h d hd d' hd', fun d hd => ?_⟩
  obtain ⟨a, ha, rfl⟩ := List.mem_map.mp hd
  have h3 := List.all_eq_true.mp h2 a ha
  rw [D.fits_all] at hf
  have h4 := List.all_eq_true.mp hf a ha
  cases a with
  | non => cases h3
  | dic _ _ => simp [D.fit] at h4
  | obj _ => simp [D.fit] at h4
  | exn _ _ _ => simp [D.fit] at h4
  | _ => simp [D.py]
theorem getD_py (ds : List D) (i : Nat) : (D.pys ds).getD i .none = (ds.getD i .non).py := by
  rw [D.pys_map, List.getD_eq_getElem?_getD, List.getD_eq_getElem?_getD, List.getElem?_map]
  cases ds[i]? <;> rfl
theorem cd_minD (hF : F.K = X.K) (hc : X.calm = true) (hu : X.A.units + 70 < cLine) : CallR X (.builtin "min") (rDA F dMinD) := by
  intro pins s σ H xs us Q I r h
  obtain ⟨g, ds, e, rfl, m, rr, o⟩ := h
  have eK := fxK e hF
  unfold dMinD at o
  split at o
  · obtain ⟨v, rfl, rx⟩ := one_rep rr
    split at o
    · rename_i y ys hl
      obtain ⟨p, xs, rfl, q, t⟩ := lstD_rep m rx hl
      split at o
      · rename_i hcd
        obtain ⟨hc1, hc2, hc3⟩ := hcd
        obtain ⟨its, rv, hl2, hz⟩ := I.list (eK ▸ q)
        rw [Vals.ref1 r]
        obtain ⟨as, hr⟩ := Dp.readsAll I _ _ _ (eK ▸ fits_dp 9 _ _ hc1 t) rv
        have hlen : its.length = ys.length + 1 := by rw [← rv.length, ← t.length]; rfl
        have hdp := (fits_plain 9 _ hc1).2
        refine call_min_walkH (iter_listW (A := X.A.in1) (I.ok.hd hc) hl2.isList fun s₂ e W st hfp hw hk => ?_)
        refine ⟨_, _, _, _, _, _, _, s.heap, _, rfl, W, st, hfp, by rw [List.size_toArray]; omega, hw, hk, cmpIn_lt (A := X.A.in1) (vs := its.toArray) hr (alikeAll_of hc1 hc2 hc3) (by show X.A.units + 1 + _ < _; omega), fun v s' hP mv => ?_⟩
        obtain ⟨h', tk, rfl, hk'⟩ := moved_old e rfl mv
        have ef : (fun i j => dataLt ((D.pys (y :: ys)).getD i .none) ((D.pys (y :: ys)).getD j .none)) = fun i j => (fun a b : D => dataLt a.py b.py) ((y :: ys).getD i .non) ((y :: ys).getD j .non) := by
          funext i j; rw [getD_py, getD_py]
        obtain ⟨i1, i2⟩ := argBest_fold (fun a b : D => dataLt a.py b.py) D.non y ys ys.length (Nat.le_refl _)
        rw [List.take_length] at i2
        have hn : its.toArray.size - 1 = ys.length := by rw [List.size_toArray]; omega
        rw [ef, hn] at hP
        generalize argBest (fun i j => (fun a b : D => dataLt a.py b.py) ((y :: ys).getD i .non) ((y :: ys).getD j .non)) ys.length = ix at i1 i2 hP
        have hix : (y :: ys)[ix]? = some (minPy y ys) := by
          have h1 : ix < (y :: ys).length := by rw [List.length_cons]; omega
          rw [List.getElem?_eq_getElem h1, ← show ys.foldl _ y = minPy y ys from rfl, ← i2, List.getD_eq_getElem?_getD, List.getElem?_eq_getElem h1]; rfl
        obtain ⟨x, hx, rxx⟩ := t.get' hix
        obtain ⟨u, hu2, ru⟩ := rv.get hx
        have : u = v := by
          have hP : its[ix]? = some v := by simpa using hP
          rw [hu2] at hP; exact Option.some.inj hP
        subst this
        exact ⟨x, g.H, I.kept (t' := tk) hk', ru, o.here m rxx⟩
      · exact o.elim
    · exact o.elim
  · exact o.elim
theorem cd_maxD (hF : F.K = X.K) (hc : X.calm = true) (hu : X.A.units + 70 < cLine) : CallR X (.builtin "max") (rDA F dMaxD) := by
  intro pins s σ H xs us Q I r h
  obtain ⟨g, ds, e, rfl, m, rr, o⟩ := h
  have eK := fxK e hF
  unfold dMaxD at o
  split at o
  · obtain ⟨v, rfl, rx⟩ := one_rep rr
    split at o
    · rename_i y ys hl
      obtain ⟨p, xs, rfl, q, t⟩ := lstD_rep m rx hl
      split at o
      · rename_i hcd
        obtain ⟨hc1, hc2, hc3⟩ := hcd
        obtain ⟨its, rv, hl2, hz⟩ := I.list (eK ▸ q)
        rw [Vals.ref1 r]
        obtain ⟨as, hr⟩ := Dp.readsAll I _ _ _ (eK ▸ fits_dp 9 _ _ hc1 t) rv
        have hlen : its.length = ys.length + 1 := by rw [← rv.length, ← t.length]; rfl
        have hdp := (fits_plain 9 _ hc1).2
        refine call_max_walkH (iter_listW (A := X.A.in1) (I.ok.hd hc) hl2.isList fun s₂ e W st hfp hw hk => ?_)
        refine ⟨_, _, _, _, _, _, _, s.heap, _, rfl, W, st, hfp, by rw [List.size_toArray]; omega, hw, hk, cmpIn_gt (A := X.A.in1) (vs := its.toArray) hr (alikeAll_of hc1 hc2 hc3) (by show X.A.units + 1 + _ < _; omega), fun v s' hP mv => ?_⟩
        obtain ⟨h', tk, rfl, hk'⟩ := moved_old e rfl mv
        have ef : (fun i j => dataLt ((D.pys (y :: ys)).getD j .none) ((D.pys (y :: ys)).getD i .none)) = fun i j => (fun a b : D => dataLt b.py a.py) ((y :: ys).getD i .non) ((y :: ys).getD j .non) := by
          funext i j; rw [getD_py, getD_py]
        obtain ⟨i1, i2⟩ := argBest_fold (fun a b : D => dataLt b.py a.py) D.non y ys ys.length (Nat.le_refl _)
        rw [List.take_length] at i2
        have hn : its.toArray.size - 1 = ys.length := by rw [List.size_toArray]; omega
        rw [ef, hn] at hP
        generalize argBest (fun i j => (fun a b : D => dataLt b.py a.py) ((y :: ys).getD i .non) ((y :: ys).getD j .non)) ys.length = ix at i1 i2 hP
        have hix : (y :: ys)[ix]? = some (maxPy y ys) := by
          have h1 : ix < (y :: ys).length := by rw [List.length_cons]; omega
          rw [List.getElem?_eq_getElem h1, ← show ys.foldl _ y = maxPy y ys from rfl, ← i2, List.getD_eq_getElem?_getD, List.getElem?_eq_getElem h1]; rfl
        obtain ⟨x, hx, rxx⟩ := t.get' hix
        obtain ⟨u, hu2, ru⟩ := rv.get hx
        have : u = v := by
          have hP : its[ix]? = some v := by simpa using hP
          rw [hu2] at hP; exact Option.some.inj hP
        subst this
        exact ⟨x, g.H, I.kept (t' := tk) hk', ru, o.here m rxx⟩
      · exact o.elim
    · exact o.elim
  · exact o.elim
end
end Z

namespace Z
open PySem PySem.Spec PySem.Calls PyProof.Rows L2 RT
/-! ### list(reversed(a list)) -/
section
variable {prog : Program} {w : World} {A : Around} {E : Value → Shared → Prop} {s : Shared} {R : Result → Shared → Prop}
theorem extend_rev {it l : Addr} {items : Array Value} (hh : A.handled = none) (S : Addr) (res : Value) (c₀ : Nat) (hit : s.heap.IsRevIter it l ((items.size : Int) - 1)) (hl : s.heap.IsList l items) (hne : l ≠ it) (hn : items.size ≤ sizeLine) (hSi : S ≠ it) (hSl : S ≠ l)
    (hS : s.heap.get? S = some { cls := .type "list", data := .seq #[] c₀ })
    (hR : ∀ (h' : Heap) (tk : Nat) (acc : Array Value) (c' : Nat), (∀ b o, b ≠ S → b ≠ it → s.heap.get? b = some o → h'.get? b = some o) → h'.get? S = some { cls := .type "list", dict := none, data := .seq acc c', slots := #[] } → ItemsOf (fun i v => items[items.size - 1 - i]? = some v) acc items.size → R (.ok (.ret res)) { s with heap := h', toks := tk }) :
    wpAny (model prog w) A.in1 (Builtin.List.listExtendWith (.ref S) (.ref it) res)
      (fun fin s' => match fin with | .done f => R (.ok f) s' | .again c' => c'.quiet = true ∧ codeAny (model prog w) A c' R s') (fun e s' => R (.error e) s') s := by
  have W := (Walks.listRev (prog := prog) (w := w) (A := A.in1) hh it l hne items).toS
  have hSf : S ∉ [it, l] := by simp only [List.mem_cons, List.not_mem_nil, or_false, not_or]; exact ⟨hSi, hSl⟩
  have hT : s.TypeIs (.ref it) "list_reverseiterator" := Heap.IsRevIter.typeIs hit
  have h1 : Builtin.List.listSameRef (.ref S) (.ref it) = false := by simp [Builtin.List.listSameRef, hSi]
  unfold Builtin.List.listExtendWith
  refine wpAny_bind (wpAny_typeOf hT ?_)
  rw [if_neg (by rw [h1]; decide)]
  refine wpAny_bind (wpAny_pyIter_revIter hit ?_)
  refine wpAny_bind (wpAny_holding ?_)
  unfold Builtin.List.listLengthHint
  refine wpAny_bind (wpAny_specialOf hT nolen_lri ?_)
  show wpAny _ A.in1 (specialOf (Value.ref it) (Str.ofString "__length_hint__") >>= _) _ _ _
  refine wpAny_bind (wpAny_specialOf hT hint_lri ?_)
  generalize hid : ("list_reverseiterator.__length_hint__" : String) = id0
  wp_delta
  rw [show splitId id0 = some ("list_reverseiterator", "__length_hint__") from by subst hid; decide +kernel]
  subst hid
  refine wpAny_bind (wpAny_isInstance (b := true) hT (by rw [isSubtype_type]; kernel_rfl) ?_)
  refine wpAny_pure ?_
  rw [if_neg (by decide)]
  have e0 : ((items.size : Nat) : Int) - 1 - ((0 : Nat) : Int) = (items.size : Int) - 1 := by omega
  refine wpAny_pure ⟨plainId_quiet F.plain_extend_loop _, codeAny_extend_loopS W hn _ hSf _ items.size 0 _ _ _ rfl (Nat.zero_le _) ⟨Nat.zero_le _, by rw [e0]; exact hit, hl⟩ hS (ItemsOf.nil _) fun s' acc' c' hm hS' hacc => ?_⟩
  rw [Moved.eq_with hm]
  refine hR s'.heap s'.toks acc' c' (fun b o hb1 hb2 e => hm.heap b o (fun hmem => ?_) e) hS' hacc
  rcases List.mem_cons.mp hmem with e' | hmem
  · exact hb1 e'
  · exact hb2 (List.mem_singleton.mp hmem)
theorem list_init_rev {it l : Addr} {items : Array Value} (hh : A.handled = none) (S : Addr) (hit : s.heap.IsRevIter it l ((items.size : Int) - 1)) (hl : s.heap.IsList l items) (hne : l ≠ it) (hn : items.size ≤ sizeLine) (hSi : S ≠ it) (hSl : S ≠ l)
    (hS : s.heap.get? S = some { cls := .type "list", data := .seq #[] })
    (hR : ∀ (h' : Heap) (tk : Nat) (acc : Array Value) (c' : Nat), (∀ b o, b ≠ S → b ≠ it → s.heap.get? b = some o → h'.get? b = some o) → h'.get? S = some { cls := .type "list", dict := none, data := .seq acc c', slots := #[] } → ItemsOf (fun i v => items[items.size - 1 - i]? = some v) acc items.size → R (.ok (.ret .none)) { s with heap := h', toks := tk }) :
    wpAny (model prog w) A.in1 (Builtin.«list.__init__» ⟨[.ref S, .ref it], []⟩)
      (fun fin s' => match fin with | .done f => R (.ok f) s' | .again c' => c'.quiet = true ∧ codeAny (model prog w) A c' R s') (fun e s' => R (.error e) s') s := by
  show wpAny _ A.in1 (do let old ← Builtin.List.listItems (.ref S); Builtin.List.listUpdate (.ref S) (fun _ => #[]); letGo old.toList.reverse; Builtin.List.listExtendWith (.ref S) (.ref it) .none) _ _ s
  refine wpAny_bind ?_
  unfold Builtin.List.listItems
  refine wpAny_bind (wpAny_seqItems hS rfl (wpAny_pure ?_))
  show wpAny _ A.in1 (updateSeq S (fun _ => #[]) >>= fun _ => letGo (#[] : Array Value).toList.reverse >>= fun _ => Builtin.List.listExtendWith (.ref S) (.ref it) .none) _ _ s
  refine wpAny_bind (wpAny_updateSeq hS rfl ?_)
  have hS₂ := Heap.get?_update_self (Obj.mapSeq (fun _ => (#[] : Array Value))) hS rfl
  have oth : ∀ b o, b ≠ S → s.heap.get? b = some o → (s.heap.update S (Obj.mapSeq (fun _ => (#[] : Array Value)))).get? b = some o :=
    fun b o hb e => (Heap.get?_update_other _ _ (Ne.symm hb)).trans e
  refine wpAny_bind (wpAny_letGo ?_)
  obtain ⟨oi, hoi, ci, di⟩ := id hit
  obtain ⟨ol, hol, cl, nl, dl⟩ := id hl
  refine extend_rev (s := { s with heap := s.heap.update S (Obj.mapSeq (fun _ => (#[] : Array Value))) }) hh S .none _ ⟨oi, oth _ _ (Ne.symm hSi) hoi, ci, di⟩ ⟨ol, oth _ _ (Ne.symm hSl) hol, cl, nl, dl⟩ hne hn hSi hSl hS₂ fun h' tk acc c' hk hS' hacc => ?_
  exact hR h' tk acc c' (fun b o hb1 hb2 e => hk b o hb1 hb2 (oth b o hb1 e)) hS' hacc
theorem call_list_rev {it l : Addr} {items : Array Value} {Q : Value → Shared → Prop} (hh : A.handled = none) (hit : s.heap.IsRevIter it l ((items.size : Int) - 1)) (hl : s.heap.IsList l items) (hne : l ≠ it) (hn : items.size ≤ sizeLine)
    (hQ : ∀ (h' : Heap) (tk : Nat) (acc : Array Value) (c' : Nat), (∀ b o, b ≠ it → s.heap.get? b = some o → h'.get? b = some o) → h'.get? s.heap.objs.size = some { cls := .type "list", dict := none, data := .seq acc c', slots := #[] } → ItemsOf (fun i v => items[items.size - 1 - i]? = some v) acc items.size → Q (.ref s.heap.objs.size) { s with heap := h', toks := tk }) :
    wpAny (model prog w) A (call (.type "list") [.ref it]) Q E s := by
  obtain ⟨oi, hoi, ci, di⟩ := id hit
  obtain ⟨ol, hol, cl, nl, dl⟩ := id hl
  have hSi : s.heap.objs.size ≠ it := Nat.ne_of_gt (Heap.lt_size hoi)
  have hSl : s.heap.objs.size ≠ l := Nat.ne_of_gt (Heap.lt_size hol)
  refine callType_codes (Q₁ := fun obj s₁ => obj = .ref s.heap.objs.size ∧ s₁ = { s with heap := s.heap.push { cls := .type "list", data := .seq #[] } }) F.called_list (F.typeCall_list_1 _) F.entry_list_init
    (code_list_new _ ⟨rfl, rfl⟩) fun obj s₁ h₁ => ?_
  obtain ⟨rfl, rfl⟩ := h₁
  have hS : (s.heap.push { cls := .type "list", data := .seq #[] }).get? s.heap.objs.size = some { cls := .type "list", data := .seq #[] } := Heap.get?_push_size _ rfl
  refine ⟨⟨_, hS, rfl⟩, F.args_list_init_2 _ _, list_init_rev (A := A.in1) hh _ ⟨oi, Heap.get?_push_of_some _ hoi, ci, di⟩ ⟨ol, Heap.get?_push_of_some _ hol, cl, nl, dl⟩ hne hn hSi hSl hS fun h' tk acc c' hk hS' hacc => ?_⟩
  exact ⟨rfl, hQ h' tk acc c' (fun b o hb e => hk b o (fun e' => Nat.lt_irrefl _ (e' ▸ Heap.lt_size e)) hb (Heap.get?_push_of_some _ e)) hS' hacc⟩
end
def tListRev (K : PySem.W.Frag) (te : TE) : TE := fun σ H Q => te σ H fun v H1 => ∃ (a : Addr) (xs : List V), v = .ref a ∧ SqL K H1 a xs ∧ ∀ q, H1 q = none → Q (.ref q) (upd H1 q (.lst xs.reverse))
section
variable {X : L2.Cx}
theorem pe_listRev {e : Expr} {te : TE} {p p2 pos pos2 : Pos} (hc : X.calm = true) (hg : Gl X "list") (hm : X.mg "list" = none) (hg2 : Gl X "reversed") (hm2 : X.mg "reversed" = none) (he : PE X e te)
    (hs : starEach [e] X.env = (false, eval e X.env) :: starEach [] X.env := by rfl)
    (hs2 : starEach [.Call (.Name "reversed" p2) [e] [] pos2] X.env = (false, eval (.Call (.Name "reversed" p2) [e] [] pos2) X.env) :: starEach [] X.env := by rfl) :
    PE X (.Call (.Name "list" p) [.Call (.Name "reversed" p2) [e] [] pos2] [] pos) (tListRev X.K te) := by
  refine ⟨fun pins s σ H Q I h => ?_⟩
  refine Call_ (ld_blt I hg hm PyProof.Rows.boot_list (PyProof.Rows.callWith_type1 (args_cons (Call_ (ld_blt I hg2 hm2 PyProof.Rows.boot_reversed (PyProof.Rows.callWith_type1 (args_cons (thn (he.run pins s σ H _ I h) fun u s1 ⟨v, H1, I1, r1, q1⟩ => args_nil ?_) hs) hs rfl))) hs2) hs2 rfl))
  obtain ⟨a, xs, ev, hq, q⟩ := q1
  subst ev
  obtain rfl : u = Value.ref a := r1
  obtain ⟨its, rv, p', hz⟩ := I1.list hq
  refine call_reversed_list p'.isList (args_nil ?_)
  have k0 : ∀ b o, s1.heap.get? b = some o → (s1.heap.push (revObj a ((its.toArray.size : Int) - 1))).get? b = some o := fun b o e => Heap.get?_push_of_some _ e
  have I2 : L2.Inv X pins σ H1 { s1 with heap := s1.heap.push (revObj a ((its.toArray.size : Int) - 1)) } := I1.kept (t' := s1.toks) k0
  obtain ⟨f0, f1, f2, f3, f4, f5⟩ := I1.fpOk (H' := H1) (b := s1.heap.objs.size) (Nat.le_refl _) (I1.hok.fresh (Nat.le_refl _))
  have hl := p'.isList
  obtain ⟨ol, hol, _⟩ := id hl
  have hne : a ≠ s1.heap.objs.size := Nat.ne_of_lt (Heap.lt_size hol)
  have hn : its.toArray.size ≤ sizeLine := by rw [List.size_toArray, ← rv.length]; exact hz
  have hfr : (s1.heap.push (revObj a ((its.toArray.size : Int) - 1))).objs.size = s1.heap.objs.size + 1 := Heap.size_push _ _
  refine call_list_rev (s := { s1 with heap := s1.heap.push (revObj a ((its.toArray.size : Int) - 1)) }) (I1.ok.hd hc) ⟨_, Heap.get?_push_size _ rfl, rfl, rfl⟩ (hl.push _) hne hn fun h' tk acc c' hk hS' hi => ?_
  have hsz : (s1.heap.push (revObj a ((its.toArray.size : Int) - 1))).objs.size = s1.heap.objs.size + 1 := hfr
  have hnone : H1 (s1.heap.objs.size + 1) = none := I1.hok.fresh (Nat.le_succ _)
  have hlen : xs.reverse.length ≤ sizeLine := by rw [List.length_reverse]; exact hz
  have hnew : ((s1.heap.push (revObj a ((its.toArray.size : Int) - 1))).push (seqObj "list" acc c')).get? (s1.heap.objs.size + 1) = some (seqObj "list" acc c') := by
    rw [← hsz]; exact Heap.get?_push_size _ rfl
  have hacc : acc = acc.toList.toArray := by simp
  have I3 : L2.Inv X pins σ (upd H1 (s1.heap.objs.size + 1) (.lst xs.reverse)) { s1 with heap := (s1.heap.push (revObj a ((its.toArray.size : Int) - 1))).push (seqObj "list" acc c'), toks := s1.toks } :=
    I2.laid (t' := s1.toks) (fun b o e => Heap.get?_push_of_some _ e) (Nat.le_of_eq hsz) (show ObjOk X.prog X.w _ _ _ (.lst xs.reverse) from ⟨hlen, acc.toList, c', vals_rev rv hi, by rw [← hacc]; exact hnew⟩)
  obtain ⟨g0, g1, g2, g3, g4, g5⟩ := I1.fpOk (H' := upd H1 (s1.heap.objs.size + 1) (.lst xs.reverse)) (b := s1.heap.objs.size) (Nat.le_refl _) (by
    have h1 : s1.heap.objs.size ≠ s1.heap.objs.size + 1 := Nat.ne_of_lt (Nat.lt_succ_self _)
    have h2 : H1 s1.heap.objs.size = none := I1.hok.fresh (Nat.le_refl _)
    simp [upd, h2])
  have I4 : L2.Inv X pins σ (upd H1 (s1.heap.objs.size + 1) (.lst xs.reverse)) { s1 with heap := h', toks := tk } := I3.turned (t' := tk) (fun b o hb e => by
    by_cases hz2 : b = s1.heap.objs.size + 1
    · subst hz2
      rw [hnew] at e
      cases e
      have := hS'
      rw [show ({ s1 with heap := s1.heap.push (revObj a ((its.toArray.size : Int) - 1)) } : Shared).heap.objs.size = s1.heap.objs.size + 1 from hsz] at this
      exact this
    · refine hk b o hb ?_
      rw [← hsz] at hz2
      exact (Heap.get?_push_ne _ b _ hz2).symm.trans e) g0 g1 g3 g4 g5
  refine ⟨_, _, I4, ?_, q _ hnone⟩
  rw [show ({ s1 with heap := s1.heap.push (revObj a ((its.toArray.size : Int) - 1)) } : Shared).heap.objs.size = s1.heap.objs.size + 1 from hsz]
  rfl
end
/-! ### in the layer -/
def fRevL (f : Sem) : SemA := fun ρ μ => (f ρ μ).bind fun d μ => match lstD μ d with
  | some ds => .ok ds.reverse μ
  | none => .bad
def fRgL1 (a : Sem) : SemA := fun ρ μ => (a ρ μ).bind fun d μ => match d with
  | .int j => if -(2 ^ 62) ≤ j ∧ j ≤ 16777216 then .ok (rangeD 0 j) μ else .bad
  | _ => .bad
section
variable {X : Cx} {F : Fx} {W : WX} {e : Expr} {f : Sem}
theorem sf_revL {p p2 pos pos2 : Pos} (hF : F.K = X.K) (hc : X.calm = true) (hm : X.mg "list" = none) (hm2 : X.mg "reversed" = none) (he : SE X F W e f) (hg : Gl X "list" := by rfl) (hg2 : Gl X "reversed" := by rfl)
    (hs : starEach [e] X.env = (false, eval e X.env) :: starEach [] X.env := by rfl)
    (hs2 : starEach [.Call (.Name "reversed" p2) [e] [] pos2] X.env = (false, eval (.Call (.Name "reversed" p2) [e] [] pos2) X.env) :: starEach [] X.env := by rfl) :
    SF X F W (.Call (.Name "list" p) [.Call (.Name "reversed" p2) [e] [] pos2] [] pos) (fRevL f) :=
  PE.imp (pe_listRev hc hg hm hg2 hm2 he hs hs2) fun σ H Q ⟨g, ρ, e1, e2, m, v, o⟩ => by
    refine ⟨g, ρ, e1, e2, m, v, Out.of_bind o fun x g1 xv m1 x1 r1 o1 => ?_⟩
    have eK := fxK (x1.fx.trans e1) hF
    cases hl : lstD g1.μ x with
    | none => simp only [hl] at o1; exact o1.elim
    | some ds =>
      simp only [hl] at o1
      obtain ⟨p, xs, rfl, q1, t⟩ := lstD_rep m1 r1 hl
      exact ⟨p, xs, rfl, eK ▸ q1, fun w hw => Out.here (a := ds.reverse) o1 m1 t.rev w hw⟩
theorem rep_rg {g : G} (i j : Int) : RepL g (rangeD i j) (rgV i j) := by
  unfold rangeD rgV
  generalize List.range (j - i).toNat = l
  induction l with
  | nil => exact .nil
  | cons x l ih => exact .cons rfl ih
theorem sf_rgL1 {p p2 pos pos2 : Pos} (hc : X.calm = true) (hm : X.mg "list" = none) (hm2 : X.mg "range" = none) (he : SE X F W e f) (hg : Gl X "list" := by rfl) (hg2 : Gl X "range" := by rfl)
    (hs : starEach [e] X.env = (false, eval e X.env) :: starEach [] X.env := by rfl)
    (hs2 : starEach [.Call (.Name "range" p2) [e] [] pos2] X.env = (false, eval (.Call (.Name "range" p2) [e] [] pos2) X.env) :: starEach [] X.env := by rfl) :
    SF X F W (.Call (.Name "list" p) [.Call (.Name "range" p2) [e] [] pos2] [] pos) (fRgL1 f) :=
  PE.imp (pe_listRg hc hg hm (prg_1 hg2 hm2 he hs) hs2) fun σ H Q ⟨g, ρ, e1, e2, m, v, o⟩ => by
    refine ⟨g, ρ, e1, e2, m, v, Out.of_bind o fun x g1 xv m1 x1 r1 o1 => ?_⟩
    cases x with
    | int j =>
      cases r1
      by_cases hj : -(2 ^ 62) ≤ j ∧ j ≤ 16777216
      · simp only [hj, and_self, if_true] at o1
        exact ⟨j, rfl, ⟨by decide, by decide, hj.1, by omega, by omega⟩, fun q hq => Out.here (a := rangeD 0 j) o1 m1 (rep_rg 0 j) q hq⟩
      · simp only [hj, if_false] at o1; exact o1.elim
    | _ => exact o1.elim
end
section
variable {ρ : Env} {μ μ1 : Mem} {f : Sem} {d : D} {ds : List D}
theorem ev_revL (h : f ρ μ = .ok d μ1) (hl : lstD μ1 d = some ds) : fRevL f ρ μ = .ok ds.reverse μ1 := by unfold fRevL; rw [h, bind_ok]; simp only [hl]
theorem ev_rgL1 {n : Nat} (h : f ρ μ = .ok (.int (n : Int)) μ1) (hn : n ≤ 1000) : fRgL1 f ρ μ = .ok ((List.range n).map fun (i : Nat) => D.int (i : Int)) μ1 := by
  unfold fRgL1; rw [h, bind_ok]
  simp only
  rw [if_pos ⟨by omega, by omega⟩]
  unfold rangeD
  simp
end
end Z

namespace Z
open PySem PySem.Spec PyProof.Rows L2
/-! ### range with a step -/
def stepD (i c : Int) (n : Nat) : List D := (List.range n).map fun (k : Nat) => .int (i + (k : Nat) * c)
instance (i j c : Int) (n : Nat) : Decidable (RgC i j c n) := by unfold RgC; infer_instance
def rgN (i j c : Int) : Nat := (Builtin.Range.rangeSize i j c).toNat
def iRg3 (a b c : Sem) : SemI := fun ρ μ => (a ρ μ).bind fun d μ => (b ρ μ).bind fun e μ => (c ρ μ).bind fun f μ => match d, e, f with
  | .int i, .int j, .int k => if RgC i j k (rgN i j k) then .ok ⟨stepD i k (rgN i j k), none⟩ μ else .bad
  | _, _, _ => .bad
theorem repI_step {g : G} {i c : Int} {n : Nat} : RepI g ⟨stepD i c n, none⟩ (Itc i c n) := fun g2 x m ok k => by
  refine ⟨fun d hd => ?_, fun e => ?_⟩
  · have hd' : (stepD i c n)[k]? = some d := hd
    unfold stepD at hd'
    rw [List.getElem?_map] at hd'
    cases q : (List.range n)[k]? with
    | none => rw [q] at hd'; cases hd'
    | some z =>
      rw [q] at hd'
      have e1 : d = .int (i + (z : Nat) * c) := (Option.some.inj hd').symm
      have hi2 : k < n := by have := (List.getElem?_eq_some_iff.mp q).1; simpa using this
      have e2 : z = k := by
        rw [List.getElem?_range hi2] at q
        exact (Option.some.inj q).symm
      subst e1; subst e2
      exact ⟨hi2, fun v H' ⟨h1, h2⟩ => ⟨g2, h1.symm, rfl, m, Ext.refl g2, h2⟩⟩
  · show n ≤ k
    have : k = (stepD i c n).length := e
    unfold stepD at this
    simp at this
    omega
section
variable {X : Cx} {F : Fx} {W : WX} {tg a b c : Expr} {fa fb fc : Sem} {p pos : Pos}
theorem si_rg3 (ha : SE X F W a fa) (hb : SE X F W b fb) (hc : SE X F W c fc) (hm : X.mg "range" = none) (hg : Gl X "range" := by rfl)
    (hs : starEach [a, b, c] X.env = (false, eval a X.env) :: starEach [b, c] X.env := by rfl) (hs2 : starEach [b, c] X.env = (false, eval b X.env) :: starEach [c] X.env := by rfl) (hs3 : starEach [c] X.env = (false, eval c X.env) :: starEach [] X.env := by rfl)
    (hpl : (backTo pos (starEach [b, c] X.env)).any (·.1) = false := by rfl) : SI X F W tg (.Call (.Name "range" p) [a, b, c] [] pos) (iRg3 fa fb fc) := by
  intro pins s σ H RR I ⟨g, ρ, e1, e2, m, v, o⟩
  subst e2
  refine (pi_range3 hg hm (pa_cons ha (pa_cons hb (pa_cons hc pa_nil hs3) hs2) hs) hs hpl).run pins s σ g.H RR I ⟨g, ρ, e1, rfl, m, v, Out.of_bind o fun d g1 w m1 x1 r1 o1 => ⟨g1, ρ, x1.fx.trans e1, rfl, m1, v.mono x1, Out.of_bind o1 fun e g2 u m2 x2 r2 o2 => ⟨g2, ρ, x2.fx.trans (x1.fx.trans e1), rfl, m2, (v.mono x1).mono x2, Out.of_bind o2 fun f g3 t m3 x3 r3 o3 => ?_⟩⟩⟩
  cases d with
  | int i =>
    cases e with
    | int j =>
      cases f with
      | int k =>
        by_cases hj : RgC i j k (rgN i j k)
        · simp only [hj, if_true] at o3
          cases r1; cases r2; cases r3
          exact ⟨i, j, k, rgN i j k, rfl, hj, o3 g3 _ rfl m3 (Ext.refl g3) ⟨repI_step, trivial⟩⟩
        · simp only [hj, if_false] at o3; exact o3.elim
      | _ => exact o3.elim
    | _ => exact o3.elim
  | _ => exact o3.elim
end
section
variable {ρ : Env} {μ μ1 μ2 μ3 : Mem} {a b c : Sem}
/-- range(i, j, -1) -/
theorem ev_rgDn {i j : Int} (h1 : a ρ μ = .ok (.int i) μ1) (h2 : b ρ μ1 = .ok (.int j) μ2) (h3 : c ρ μ2 = .ok (.int (-1)) μ3) (hi : rg62 i) (hj : rg62 j) : iRg3 a b c ρ μ = .ok ⟨(List.range (i - j).toNat).map fun (k : Nat) => D.int (i - (k : Int)), none⟩ μ3 := by
  unfold iRg3
  rw [h1, bind_ok, h2, bind_ok, h3, bind_ok]
  have hr := RgC.neg hi.1 hi.2 hj.1 hj.2
  have e : rgN i j (-1) = (i - j).toNat := by unfold rgN; rw [hr.2.2.2]; rfl
  simp only
  rw [e, if_pos hr]
  unfold stepD
  congr 3
  funext k
  rw [Int.mul_neg_one]; rfl
end
end Z

namespace Z
open PySem PySem.Spec PyProof.Rows L2 L2H HotX
/-! ### a comprehension where an exception is handled: what is walked stands against it (TurnH) -/
/-- the context of such a comprehension: it bears the exception -/
abbrev blkH (X : L2.Cx) (s : Shared) (H : Hp) (scope : Scope) (ce : PySem.Env) (fp : List Addr) (p : Addr × Obj) : L2.Cx := { X.blk s H scope ce fp with pn := [p] }
theorem inv_pn {X : L2.Cx} {σ : L2.St} {H : Hp} {s : Shared} {p : Addr × Obj} (I : L2.Inv X [] σ H s) (hp : s.heap.get? p.1 = some p.2 ∧ H p.1 = none ∧ p.1 ≠ X.env.locals ∧ p.1 ∉ X.fs ∧ ∀ v, p.2.data ≠ .cell v) : L2.Inv { X with pn := [p] } [] σ H s :=
  ⟨⟨I.ok.mod, I.ok.kind, I.ok.glob, I.ok.blt, I.ok.above, I.ok.inj, I.ok.has, I.ok.cab, I.ok.hd, I.ok.frames, I.ok.stk, I.ok.exf, I.ok.bs, I.ok.bsz, I.ok.noex, I.ok.exfs, I.ok.funs, I.ok.frf⟩, I.os, I.bare, I.base, I.loc, I.cell, I.free, I.freeC,
    fun q hq => by
      have e : q = p := by simpa using hq
      subst e; exact hp, I.hok, I.len⟩
section
variable {X : L2.Cx}
theorem lcH_core {pins : List (Addr × Obj)} {s : Shared} {σ : L2.St} {H : Hp} {Q : VK} {elt tg iter : Expr} {ifs : List Expr} {scope : Scope} {own : List (Str × Nat)} {pos pos' : Pos} {wi : TI} {g : TG} {tt : TT} {te : TE} {use : Option (Value → PySem.Sem Unit)} {Qf : Value → Shared → Prop} (hc : HotC X) (hst : X.stack = X.env :: X.outer) (hfr : X.env.frame = some X.env.locals) (hN : X.N.Nodup) (I : L2.Inv X pins σ H s) (hi : PIH X tg iter wi) (ok : BlkOk X.N X.env.scope scope own)
    (hg : ∀ (s : Shared) (H : Hp) (C : Addr) (cl : List (Str × Addr)) (fp : List Addr) (p : Addr × Obj), PG (blkH X s H scope (compEnvC scope cl C X.env) fp p) tg g) (ht : ∀ (s : Shared) (H : Hp) (C : Addr) (cl : List (Str × Addr)) (fp : List Addr) (p : Addr × Obj), PTs (blkH X s H scope (compEnvC scope cl C X.env) fp p) ifs tt)
    (he : ∀ (s : Shared) (H : Hp) (C : Addr) (cl : List (Str × Addr)) (fp : List Addr) (p : Addr × Obj), PE (blkH X s H scope (compEnvC scope cl C X.env) fp p) elt te) (hs : ∀ x, foldedSetIterable iter X.env x = pure x)
    (h : tLc wi g tt te (own.map (·.2)) σ H Q)
    (hRR : ∀ D C s' m H', L2.Inv X pins σ H' s' → Q (.ref D) H' → s'.heap.Ns C m → FpOk X pins H' C → compPost (model X.prog X.w) X.A X.xe use Qf (.ref D) C (.ok .next) s') :
    wpAny (model X.prog X.w) X.A (comprehension (.ListComp elt [⟨tg, iter, ifs, 0⟩] scope pos) scope X.env pos' (newList []) false (eval iter X.env) use) Qf X.xe s := by
  obtain ⟨p, hp1, hp2⟩ := hc
  have hfree : ∀ y ∈ scope.names, y.2 = .free → ∃ c, X.env.cells.lookup y.1 = some c := fun y hy e => by
    rcases ok.free y hy e with k | k
    · exact I.ok.has _ (.inl k)
    · exact I.ok.has _ (.inr k)
  refine wpAny_comprehension_free (use := use) rfl hs (closure_ok hfree) ok.kind (fun y hy e => by rw [ok.uniq y hy, e]) (thn (hi.run pins s σ H _ I h) fun xv s1 hx => thn hx fun itv s2 h2 => ?_)
  obtain ⟨it, fp, tn, J, H2, e, I2, T, st2, f2, q⟩ := h2
  subst e
  refine wpAny_newObj_type (newEnv_comp ?_) (by show 0 ≤ sizeLine; decide)
  generalize hD : s2.heap.objs.size = D
  have hDn : H2 D = none := I2.hok.fresh (Nat.le_of_eq hD)
  obtain ⟨W, ⟨m0, w0⟩, turn⟩ := q D hDn
  generalize hs3 : ({ s2 with heap := s2.heap.push { cls := .type "list", data := .seq ([] : List Value).toArray } } : Shared) = s3
  have I3 : L2.Inv X pins σ (upd H2 D (.lst [])) s3 := by
    rw [← hs3]
    refine I2.laid (t' := s2.toks) (fun b o e => Heap.get?_push_of_some _ e) (Nat.le_of_eq hD) ⟨Nat.zero_le _, [], 0, .nil, ?_⟩
    rw [← hD]
    exact Heap.get?_push_size _ rfl
  have h3 : s3.heap = s2.heap.push { cls := .type "list", data := .seq ([] : List Value).toArray } := by rw [← hs3]
  have f3 : ∀ b ∈ fp, FpOk X pins (upd H2 D (.lst [])) b ∧ b < s3.heap.objs.size := fun b hb => by
    obtain ⟨o, e, _⟩ := T.obj _ _ st2 b hb
    have hlt := Heap.lt_size e
    refine ⟨⟨?_, (f2 b hb).2⟩, by rw [h3, Heap.size_push]; exact Nat.lt_succ_of_lt hlt⟩
    rw [upd_ne (by rw [← hD]; exact Nat.ne_of_lt hlt)]
    exact (f2 b hb).1
  have st3 : tn 0 s3.heap := T.keep _ _ _ st2 fun b _ o e => by rw [h3]; exact Heap.get?_push_of_some _ e
  have pin3 := I3.pin p (List.mem_append_left _ hp2)
  have I4 := block_start I3 ok hN f3
  have pg := hg s3 (upd H2 D (.lst [])) s3.heap.objs.size (cellsFrom (s3.heap.objs.size + 1) scope.names (cloFrom X.env.cells scope.names [])) fp p
  have pt := ht s3 (upd H2 D (.lst [])) s3.heap.objs.size (cellsFrom (s3.heap.objs.size + 1) scope.names (cloFrom X.env.cells scope.names [])) fp p
  have pe := he s3 (upd H2 D (.lst [])) s3.heap.objs.size (cellsFrom (s3.heap.objs.size + 1) scope.names (cloFrom X.env.cells scope.names [])) fp p
  show codeAny _ _ (.compStart (.ListComp elt [⟨tg, iter, ifs, 0⟩] scope pos) 0 (.ref it) (.ref D) (compEnvC scope (cellsFrom (s3.heap.objs.size + 1) scope.names (cloFrom X.env.cells scope.names [])) s3.heap.objs.size X.env)) _ { s3 with heap := pushCells (s3.heap.push { cls := .type "dict", data := .dict #[] }) scope.names }
  have nfp : ∀ b ∈ fp, (upd H2 D (.lst [])) b = none := fun b hb => (f3 b hb).1.1
  generalize hce : compEnvC scope (cellsFrom (s3.heap.objs.size + 1) scope.names (cloFrom X.env.cells scope.names [])) s3.heap.objs.size X.env = ce at I4 pg pt pe ⊢
  have cL : ce.locals = s3.heap.objs.size := by subst hce; rfl
  generalize hH3 : upd H2 D (.lst []) = H3 at I3 I4 pg pt pe w0 nfp f3 pin3
  generalize hs4 : ({ s3 with heap := pushCells (s3.heap.push { cls := .type "dict", data := .dict #[] }) scope.names } : Shared) = s4 at I4 ⊢
  have k4 : ∀ b o, s3.heap.get? b = some o → s4.heap.get? b = some o := fun b o e => by rw [← hs4]; exact pushCells_keeps _ _ _ _ (Heap.get?_push_of_some _ e)
  have st4 : tn 0 s4.heap := T.keep _ _ _ st3 fun b _ o e => k4 b o e
  have I5 : L2.Inv (blkH X s3 H3 scope ce fp p) [] (wipe σ (own.map (·.2))) H3 s4 := inv_pn I4 ⟨k4 _ _ pin3.1, pin3.2.1, by
      show p.1 ≠ ce.locals
      rw [cL]; exact Nat.ne_of_lt (Heap.lt_size pin3.1), by
      show p.1 ∉ frs X.stack
      rw [hst]
      unfold frs
      rw [List.filterMap_cons, hfr]
      simp only [List.mem_cons, not_or]
      exact ⟨pin3.2.2.1, pin3.2.2.2.1⟩, pin3.2.2.2.2⟩
  have pne : ∀ b ∈ fp, p.1 ≠ b := fun b hb => (f3 b hb).1.2.2.2.2.2 p (List.mem_append_left _ hp2)
  have hot : HotC (blkH X s3 H3 scope ce fp p) := ⟨p, hp1, List.mem_singleton.mpr rfl⟩
  have stat : ∀ {σ' : L2.St} {H' : Hp} {s' : Shared}, L2.Inv (blkH X s3 H3 scope ce fp p) [] σ' H' s' → (∀ b ∈ fp, H' b = none) → ∀ b ∈ fp, FpOk (blkH X s3 H3 scope ce fp p) [] H' b := fun {σ' H' s'} I' hn b hb =>
    ⟨hn b hb, (I'.ok.exf b hb).1, I'.ok.exfs b hb, .inl hb, fun x c e => (I'.ok.exf b hb).2 x c e, fun r hr => by
      have e : r = p := by simpa using hr
      subst e; exact pne b hb⟩
  refine codeAny_compStart_list ?loop (T.self X.A 0 _ _ _ st4 ?loop)
  case loop =>
    refine compLoop_any (fun n s' => ∃ i H', L2.Inv (blkH X s3 H3 scope ce fp p) [] (wipe σ (own.map (·.2))) H' s' ∧ tn i s'.heap ∧ (∀ b ∈ fp, H' b = none) ∧ W i n H') ?_ m0 ⟨0, H3, I5, st4, nfp, w0⟩
    rintro n s5 ⟨i, H5, J5, st5, n5, w5⟩
    rcases turn i n H5 w5 with ⟨stop, qq⟩ | ⟨go, Nx, hNx, step⟩
    · refine thnF (T.done (blkH X s3 H3 scope ce fp p) rfl rfl rfl hot i [] s5 _ H5 (fun _ _ => False) J5 (stat J5 n5) st5 stop) fun r s6 ⟨hr, I6⟩ => ?_
      subst hr
      have I7 : L2.Inv X pins σ H5 s6 := I3.call' (ch := fp) I6.os I6.base I6.hok I6.bare fun b hb => ⟨(f3 b hb).1.2.2.2.1, (f3 b hb).1.2.1, (f3 b hb).1.2.2.2.2.1, (f3 b hb).1.2.2.2.2.2⟩
      have nC : H5 s3.heap.objs.size = none := by
        have z : H5 ce.locals = none := I6.free
        rw [cL] at z
        exact z
      obtain ⟨m, hn, _⟩ := I6.loc
      have hn : s6.heap.Ns ce.locals m := hn
      rw [cL] at hn
      exact hRR D s3.heap.objs.size s6 m H5 I7 qq hn (I3.fpOk (Nat.le_refl _) nC)
    · refine thnF (T.item (blkH X s3 H3 scope ce fp p) rfl rfl rfl hot i [] s5 _ H5 (fun _ _ => False) J5 (stat J5 n5) st5 go) fun r s6 ⟨u, hr, h6⟩ => ?_
      subst hr
      refine thnF h6 fun _ s7 ⟨x, H7, I7, r7, y7, st7, n7⟩ => ?_
      have I7' := I7.pinned (stat I7 n7) (T.obj _ _ st7)
      refine thnF (pg.run _ s7 _ H7 x u _ I7' r7 (step x H7 y7)) fun _ s8 ⟨σ8, H8, I8, hw8, q8⟩ => ?_
      refine thnF (pt.run _ s8 σ8 H8 _ I8 q8) fun b s9 ⟨H9, I9, q9⟩ => ?_
      have fin : ∀ {s' : Shared} {H' : Hp}, L2.Inv (blkH X s3 H3 scope ce fp p) ([] ++ pinsAt fp s7.heap) σ8 H' s' → Nx H' → ∃ m, m < n ∧ ∃ i H', L2.Inv (blkH X s3 H3 scope ce fp p) [] (wipe σ (own.map (·.2))) H' s' ∧ tn i s'.heap ∧ (∀ b ∈ fp, H' b = none) ∧ W i m H' := fun {s' H'} I' nx => by
        obtain ⟨m', hm, w'⟩ := hNx H' nx
        have pin' : ∀ b ∈ fp, ∀ o, s7.heap.get? b = some o → s'.heap.get? b = some o ∧ H' b = none := fun b hb o e =>
          let z := I'.pin (b, o) (List.mem_append_right _ (List.mem_append_right _ (mem_pinsAt hb e)))
          ⟨z.1, z.2.1⟩
        have hl : (wipe σ (own.map (·.2))).length = σ8.length := by rw [← hw8, wipe_length]
        refine ⟨m', hm, i + 1, H', (I'.unpinned (pins := [])).weak hl (fun j v e => ?_), T.keep _ _ _ st7 fun b hb o e => (pin' b hb o e).1, fun b hb => ?_, w'⟩
        · rw [← hw8] at e
          exact (wipe_some e).1
        · obtain ⟨o, e, _⟩ := T.obj _ _ st7 b hb
          exact (pin' b hb o e).2
      cases b with
      | false =>
        simp only [Bool.false_eq_true, if_false] at q9 ⊢
        exact fin I9 q9
      | true =>
        simp only [if_true] at q9 ⊢
        refine thnF (pe.run _ s9 σ8 H9 _ I9 q9) fun z s10 ⟨yv, H10, I10, r10, acc, hD10, hz10, nx⟩ => ?_
        exact app_ok (X := blkH X s3 H3 scope ce fp p) I10 hD10 hz10 r10 fun s11 I11 => fin I11 nx
theorem pe_lcH {elt tg iter : Expr} {ifs : List Expr} {scope : Scope} {own : List (Str × Nat)} {pos : Pos} {wi : TI} {g : TG} {tt : TT} {te : TE} (hc : HotC X) (hst : X.stack = X.env :: X.outer) (hfr : X.env.frame = some X.env.locals) (hN : X.N.Nodup) (hi : PIH X tg iter wi) (ok : BlkOk X.N X.env.scope scope own)
    (hg : ∀ (s : Shared) (H : Hp) (C : Addr) (cl : List (Str × Addr)) (fp : List Addr) (p : Addr × Obj), PG (blkH X s H scope (compEnvC scope cl C X.env) fp p) tg g) (ht : ∀ (s : Shared) (H : Hp) (C : Addr) (cl : List (Str × Addr)) (fp : List Addr) (p : Addr × Obj), PTs (blkH X s H scope (compEnvC scope cl C X.env) fp p) ifs tt)
    (he : ∀ (s : Shared) (H : Hp) (C : Addr) (cl : List (Str × Addr)) (fp : List Addr) (p : Addr × Obj), PE (blkH X s H scope (compEnvC scope cl C X.env) fp p) elt te) (hs : ∀ x, foldedSetIterable iter X.env x = pure x := by intro _; rfl) :
    PE X (.ListComp elt [⟨tg, iter, ifs, 0⟩] scope pos) (tLc wi g tt te (own.map (·.2))) := by
  refine ⟨fun pins s σ H Q I h => ?_⟩
  rw [eval_ListComp]
  refine lcH_core hc hst hfr hN I hi ok hg ht he hs h fun D C s' m H' I' q hn f => ⟨m, hn, fun h'' sb => ?_⟩
  obtain ⟨f0, f1, f2, f3, f4, f5⟩ := f
  exact ⟨.ref D, H', I'.turned (t' := s'.toks) (fun b o hb e => (sb.2 b hb).trans e) f0 f1 f3 f4 f5, rfl, q⟩
theorem ps_setLcH {i : Nat} {y : Str} {py : Pos} {elt tg iter : Expr} {ifs : List Expr} {scope : Scope} {own : List (Str × Nat)} {pos spos : Pos} {wi : TI} {g : TG} {tt : TT} {te : TE} (hc : HotC X) (hst : X.stack = X.env :: X.outer) (hfr : X.env.frame = some X.env.locals) (hN : X.N.Nodup) (hy : X.N[i]? = some y) (hyl : X.env.scope.names.lookup y = some .local)
    (hsw : swapsWith (.ListComp elt [⟨tg, iter, ifs, 0⟩] scope pos) (some (.Name y py)) spos.line X.env = pure true) (hi : PIH X tg iter wi) (ok : BlkOk X.N X.env.scope scope own)
    (hg : ∀ (s : Shared) (H : Hp) (C : Addr) (cl : List (Str × Addr)) (fp : List Addr) (p : Addr × Obj), PG (blkH X s H scope (compEnvC scope cl C X.env) fp p) tg g) (ht : ∀ (s : Shared) (H : Hp) (C : Addr) (cl : List (Str × Addr)) (fp : List Addr) (p : Addr × Obj), PTs (blkH X s H scope (compEnvC scope cl C X.env) fp p) ifs tt)
    (he : ∀ (s : Shared) (H : Hp) (C : Addr) (cl : List (Str × Addr)) (fp : List Addr) (p : Addr × Obj), PE (blkH X s H scope (compEnvC scope cl C X.env) fp p) elt te) (hs : ∀ x, foldedSetIterable iter X.env x = pure x := by intro _; rfl) :
    PS X (.Assign [.Name y py] (.ListComp elt [⟨tg, iter, ifs, 0⟩] scope pos) spos) (tAsg (tLc wi g tt te (own.map (·.2))) (gName i)) := by
  refine ⟨fun pins s σ H D I h => ?_⟩
  rw [exec_Assign_Name_used _ _ _ _ hsw]
  refine wpAny_bind (wpAny_standAt (wpAny_bind ?_))
  show wpAny _ X.A (do let _ ← comprehension (.ListComp elt [⟨tg, iter, ifs, 0⟩] scope pos) scope X.env (firstIterPos [⟨tg, iter, ifs, 0⟩] pos) (newList []) false (eval iter X.env) (some (assign (.Name y py) X.env))) _ _ s
  have h : tLc wi g tt te (own.map (·.2)) σ H (fun x H1 => gName i x σ H1 D.nx) := h
  refine wpAny_bind (thn (lcH_core (Qf := fun _ s' => SP X pins D .next s') hc hst hfr hN I hi ok hg ht he hs h fun L C s' m H' I' q hn f => ?_) fun _ s' hq => wpAny_pure (wpAny_pure hq))
  show wpAny _ _ (assign (.Name y py) X.env (.ref L)) _ _ _
  refine wpAny_assign_Name (store_ok2 (v := V.ref L) I' hN hy (.inl hyl) rfl (fun s2 I2 ⟨a, sb, ha⟩ => ?_) (.inr hyl))
  obtain ⟨f0, f1, f2, f3, f4, f5⟩ := f
  have haC : C ≠ a := by
    rcases ha with z | z
    · rw [z]; exact f1
    · exact fun e => f4 y a z e.symm
  refine ⟨m, hn.sameBut sb haC, fun h3 sb3 => ?_⟩
  exact ⟨_, H', I2.turned (t' := s2.toks) (fun b o hb e => (sb3.2 b hb).trans e) f0 f1 f3 f4 f5, q⟩
end
end Z

namespace Z
open PySem PySem.Spec PyProof.Rows L2 L2H
/-! ### comprehensions in a suite of `except .. as x` -/
structure Ctk (X : L2.Cx) (F : Fx) : Prop extends Cts X F where
  n : X.N.Nodup
structure Cth (X : L2.Cx) (F : Fx) : Prop extends Cts X F where
  n : X.N.Nodup
  hot : HotC X
  s : X.stack = X.env :: X.outer
  f : X.env.frame = some X.env.locals
theorem Ctx.suH {X : L2.Cx} {F : Fx} {W : L2.WX} {L : Nat} (c : Ctx X F W L) {a : Addr} {oe : Obj} (pn : List (Addr × Obj)) (c0 : Str) {D : Addr} (z : L2N.Zn (.ref D) none oe) (hv : ∃ vs, oe.data = .fields vs) : Cth (X.suite a ((a, oe) :: pn)) { F with xo := some (a, c0, none) } := by
  obtain ⟨vs, hd⟩ := hv
  exact ⟨⟨c.k, c.u⟩, c.n, ⟨(a, oe), ⟨rfl, vs, hd, z.2.2 vs hd⟩, List.mem_cons_self⟩, c.s, c.f⟩
section
variable {X : L2.Cx} {F : Fx} {W : L2.WX} {s : Shared} {H : Hp} {scope : Scope} {A : Addr} {cl : List (Str × Addr)} {fp : List Addr} {p : Addr × Obj}
theorem Cth.hG {tg : Expr} {a : Tgt} {vs : List Nat} (c : Cth X F) (k : Ctk (blkH X s H scope (compEnvC scope cl A X.env) fp p) F → SGw (blkH X s H scope (compEnvC scope cl A X.env) fp p) F tg a vs) : SGw (blkH X s H scope (compEnvC scope cl A X.env) fp p) F tg a vs := k ⟨⟨c.k, c.u⟩, c.n⟩
theorem Cth.hT {ifs : List Expr} {t : SemT} (c : Cth X F) (k : Ctk (blkH X s H scope (compEnvC scope cl A X.env) fp p) F → SPt (blkH X s H scope (compEnvC scope cl A X.env) fp p) F W0 ifs t) : SPt (blkH X s H scope (compEnvC scope cl A X.env) fp p) F W0 ifs t := k ⟨⟨c.k, c.u⟩, c.n⟩
theorem Cth.hE {e : Expr} {f : Sem} (c : Cth X F) (k : Ctk (blkH X s H scope (compEnvC scope cl A X.env) fp p) F → SE (blkH X s H scope (compEnvC scope cl A X.env) fp p) F W0 e f) : SE (blkH X s H scope (compEnvC scope cl A X.env) fp p) F W0 e f := k ⟨⟨c.k, c.u⟩, c.n⟩
end
section
variable {X : Cx} {F : Fx} {W : WX} {tg elt iter e : Expr} {ifs : List Expr} {scope : Scope} {own : List (Str × Nat)} {pos : Pos} {fi : SemI} {a : Tgt} {t : SemT} {fe fa : Sem}
theorem si_rg1H {p : Pos} (ha : SE X F W e fa) (hm : X.mg "range" = none) (hg : Gl X "range" := by rfl) (hs : starEach [e] X.env = [(false, eval e X.env)] := by rfl) : PIH X tg (.Call (.Name "range" p) [e] [] pos) (tIt F W (iRg1 fa)) :=
  ⟨fun pins s σ H RR I ⟨g, ρ, e1, e2, m, v, o⟩ => by
    subst e2
    refine (pi_range1H hg hm (pa_cons ha pa_nil hs) hs).run pins s σ g.H RR I ⟨g, ρ, e1, rfl, m, v, Out.of_bind o fun d g1 w m1 x1 r1 o1 => ?_⟩
    cases d with
    | int j =>
      by_cases hj : rg62 j
      · simp only [hj, if_true] at o1
        cases r1
        exact ⟨j, rfl, hj.1, hj.2, o1 g1 _ rfl m1 (Ext.refl g1) ⟨by have := repI_rg (g := g1) (lo := 0) (hi := j); rwa [Int.sub_zero] at this, trivial⟩⟩
      · simp only [hj, if_false] at o1; exact o1.elim
    | _ => exact o1.elim⟩
theorem sf_lcH (C : Cth X F) (hi : PIH X tg iter (tIt F W fi)) (ok : BlkOk X.N X.env.scope scope own)
    (hg : ∀ (s : Shared) (H : Hp) (C : Addr) (cl : List (Str × Addr)) (fp : List Addr) (p : Addr × Obj), SGw (blkH X s H scope (compEnvC scope cl C X.env) fp p) F tg a (own.map (·.2)))
    (ht : ∀ (s : Shared) (H : Hp) (C : Addr) (cl : List (Str × Addr)) (fp : List Addr) (p : Addr × Obj), SPt (blkH X s H scope (compEnvC scope cl C X.env) fp p) F W0 ifs t)
    (he : ∀ (s : Shared) (H : Hp) (C : Addr) (cl : List (Str × Addr)) (fp : List Addr) (p : Addr × Obj), SE (blkH X s H scope (compEnvC scope cl C X.env) fp p) F W0 elt fe) (hs : ∀ x, foldedSetIterable iter X.env x = pure x := by intro _; rfl) :
    SF X F W (.ListComp elt [⟨tg, iter, ifs, 0⟩] scope pos) (fLc fi a t fe (own.map (·.2))) :=
  PE.imp (pe_lcH C.hot C.s C.f C.n hi ok hg ht he hs) fun σ H Q ⟨g, ρ, e1, e2, m, v, o⟩ => by
    refine ⟨g, ρ, e1, e2, m, v, o.of_bind fun w g1 J m1 x1 ⟨rw1, gd1⟩ o1 D hD => ?_⟩
    by_cases hlen : w.ds.length ≤ sizeLine
    · rw [if_pos hlen] at o1
      exact lc_turns (x1.fx.trans e1) m1 (v.mono x1) rw1 gd1 hlen o1 D hD
    · rw [if_neg hlen] at o1; exact o1.elim
theorem ss_setLcH (i : Nat) {y : Str} {py spos : Pos} (bx : Bool) (C : Cth X F) (hi : PIH X tg iter (tIt F W fi)) (ok : BlkOk X.N X.env.scope scope own)
    (hg : ∀ (s : Shared) (H : Hp) (C : Addr) (cl : List (Str × Addr)) (fp : List Addr) (p : Addr × Obj), SGw (blkH X s H scope (compEnvC scope cl C X.env) fp p) F tg a (own.map (·.2)))
    (ht : ∀ (s : Shared) (H : Hp) (C : Addr) (cl : List (Str × Addr)) (fp : List Addr) (p : Addr × Obj), SPt (blkH X s H scope (compEnvC scope cl C X.env) fp p) F W0 ifs t)
    (he : ∀ (s : Shared) (H : Hp) (C : Addr) (cl : List (Str × Addr)) (fp : List Addr) (p : Addr × Obj), SE (blkH X s H scope (compEnvC scope cl C X.env) fp p) F W0 elt fe)
    (hy : X.N[i]? = some y := by rfl) (hyl : X.env.scope.names.lookup y = some .local := by rfl) (hsw : swapsWith (.ListComp elt [⟨tg, iter, ifs, 0⟩] scope pos) (some (.Name y py)) spos.line X.env = pure true := by exact sw_true rfl rfl rfl (by decide +kernel)) (hs : ∀ x, foldedSetIterable iter X.env x = pure x := by intro _; rfl) :
    SS X F W (.Assign [.Name y py] (.ListComp elt [⟨tg, iter, ifs, 0⟩] scope pos) spos) (sSet i ((if bx = true then fBox else fTree) (fLc fi a t fe (own.map (·.2))))) :=
  PS.imp (ps_setLcH C.hot C.s C.f C.n hy hyl hsw hi ok hg ht he hs) fun D σ H ⟨g, ρ, e1, e2, m, v, o⟩ => by
    have key : OutS D W g ((fi ρ g.μ).s ρ fun w μ => (if w.ds.length ≤ sizeLine then lcL w.gd a t fe (wipeD ρ (own.map (·.2))) w.ds μ else R.bad).s ρ fun ds μ => if bx = true then .next (ρ.set i (some (.obj μ.length))) (μ ++ [.lst ds]) else .next (ρ.set i (some (.lst ds))) μ) := by
      unfold sSet at o
      cases bx with
      | true =>
        rw [if_pos rfl] at o
        unfold fBox fLc at o
        cases h1 : fi ρ g.μ with
        | bad => rw [h1] at o; exact o
        | exc e μ => rw [h1] at o; exact o
        | ok w μ =>
          rw [h1] at o
          show OutS D W g ((if w.ds.length ≤ sizeLine then lcL w.gd a t fe (wipeD ρ (own.map (·.2))) w.ds μ else R.bad).s ρ _)
          have o : OutS D W g (((if w.ds.length ≤ sizeLine then lcL w.gd a t fe (wipeD ρ (own.map (·.2))) w.ds μ else R.bad).bind fun ds μ => R.ok (.obj μ.length) (μ ++ [.lst ds])).s ρ fun d μ => .next (ρ.set i (some d)) μ) := o
          cases h2 : (if w.ds.length ≤ sizeLine then lcL w.gd a t fe (wipeD ρ (own.map (·.2))) w.ds μ else R.bad) with
          | bad => rw [h2] at o; exact o
          | exc e μ => rw [h2] at o; exact o
          | ok ds μ => rw [h2] at o; exact o
      | false =>
        rw [if_neg Bool.false_ne_true] at o
        unfold fTree fLc at o
        cases h1 : fi ρ g.μ with
        | bad => rw [h1] at o; exact o
        | exc e μ => rw [h1] at o; exact o
        | ok w μ =>
          rw [h1] at o
          show OutS D W g ((if w.ds.length ≤ sizeLine then lcL w.gd a t fe (wipeD ρ (own.map (·.2))) w.ds μ else R.bad).s ρ _)
          have o : OutS D W g (((if w.ds.length ≤ sizeLine then lcL w.gd a t fe (wipeD ρ (own.map (·.2))) w.ds μ else R.bad).bind fun ds μ => R.ok (.lst ds) μ).s ρ fun d μ => .next (ρ.set i (some d)) μ) := o
          cases h2 : (if w.ds.length ≤ sizeLine then lcL w.gd a t fe (wipeD ρ (own.map (·.2))) w.ds μ else R.bad) with
          | bad => rw [h2] at o; exact o
          | exc e μ => rw [h2] at o; exact o
          | ok ds μ => rw [h2] at o; exact o
    refine ⟨g, ρ, e1, e2, m, v, key.ex v fun w g1 J m1 x1 ⟨rw1, gd1⟩ o1 D' hD => ?_⟩
    by_cases hlen : w.ds.length ≤ sizeLine
    · rw [if_pos hlen] at o1
      refine lc_turns (W := W) (Q := fun x H1 => D.nx (σ.set i (some x)) H1) (x1.fx.trans e1) m1 (v.mono x1) rw1 gd1 hlen (o1.ex (v.mono x1) fun ds g2 xs m2 x2 r2 o2 p hp => ?_) D' hD
      cases bx with
      | true =>
        rw [if_pos rfl] at o2
        exact o2 (g2.new p (.lst xs) (.lst ds)) _ rfl (new_lst m2 hp r2) (Ext.new m2 hp) (((v.mono x1).mono (x2.trans (Ext.new m2 hp))).set i (new_at g2 m2 p _ _))
      | false =>
        rw [if_neg Bool.false_ne_true] at o2
        exact o2 (g2.put p (.lst xs)) _ rfl (m2.put hp) (Ext.put hp (m2.fresh hp).2.1) (((v.mono x1).mono (x2.trans (Ext.put hp (m2.fresh hp).2.1))).set i (put_lst m2 hp r2))
    · rw [if_neg hlen] at o1; exact o1.elim
end
end Z

namespace Z
open PySem PySem.Spec
theorem isWS {a : SemS} {ρ : Env} {μ : Mem} {Q : RS → Prop} (h : WS a ρ μ Q) : WS a ρ μ Q := h
theorem list_o {n : Nat} {ds : List D} {μ : Mem} (h : μ[n]? = some (.lst ds)) : dList [.obj n] μ = .ok ds μ := by
  unfold dList
  simp only [lstD, h]
/-- a cell that holds no handles and no exceptions -/
def Cell.cc (c : Cell) : Prop := (∀ n, Cell.below n c = true) ∧ c.noX = true
theorem cc_lst {ds : List D} (h : ∀ d ∈ ds, d.cl) : (Cell.lst ds).cc := ⟨fun n => cl_cell h n, cl_cellx h⟩
theorem cc_fz {d : D} (h : d.cl) : (Cell.fz d).cc := ⟨fun n => cl_fz h n, h.2⟩
theorem good_cc {μ : Mem} (h : ∀ x ∈ μ, x.cc) : GoodM μ := ⟨List.all_eq_true.mpr fun x hx => (h x hx).1 _, List.all_eq_true.mpr fun x hx => (h x hx).2⟩
theorem cc_cons {c : Cell} {μ : Mem} (h : c.cc) (h2 : ∀ x ∈ μ, x.cc) : ∀ x ∈ c :: μ, x.cc := fun x hx => by
  rcases List.mem_cons.mp hx with rfl | hx
  · exact h
  · exact h2 x hx
theorem cc_snoc {c : Cell} {μ : Mem} (h2 : ∀ x ∈ μ, x.cc) (h : c.cc) : ∀ x ∈ μ ++ [c], x.cc := fun x hx => by
  rcases List.mem_append.mp hx with hx | hx
  · exact h2 x hx
  · rw [List.mem_singleton] at hx; subst hx; exact h
end Z

open PySem PySem.Spec Z
local macro_rules | `(tactic| wtm_at "w_pre") => `(tactic| (repeat' (first | (with_reducible apply WS.assoc) | (with_reducible apply WS.skip))))
local macro_rules | `(tactic| wtm_at "w_norm") => `(tactic| ((try dsimp only [List.set_cons_zero, List.set_cons_succ, List.cons_append, List.nil_append, startD]); (try simp only [setA0, setA, lenA, List.set_cons_zero, List.set_cons_succ, List.cons_append, List.nil_append, List.append_assoc, List.length_cons, List.length_nil, Nat.zero_add, Nat.reduceAdd, Int.reduceToNat, Int.toNat_natCast])))
local macro_rules | `(tactic| wtm_at "w_start") => `(tactic| simp only [startD, List.map_cons, List.map_nil, List.length_cons, List.length_nil, List.replicate, List.cons_append, List.nil_append, List.append_nil, Nat.reduceSub, Nat.reduceAdd, Nat.zero_add])
local macro_rules | `(tactic| wtm_at "ev_core") => `(tactic| first | with_reducible (first | exact dEq_bl _ _ _ | exact dNe_bl _ _ _ | exact ev_c | exact ev_nil | exact ev_onone | exact add_int _ _ _ | exact lf_int_bl | exact lf_is_bl | exact lf_isn_bl | exact lf_repr_bl | exact repr_ne _ _ _ | exact lf_abs _ _ | exact sub_int _ _ _ | exact neg_int _ _ | exact lt_int _ _ _ | exact gt_int _ _ _ | exact le_int _ _ _ | exact ge_int _ _ _ | exact int_int _ _ | exact max_int _ _ _ | exact min_int _ _ _ | exact len_lst _ _ | exact len_sq _ _ | exact list_l _ _ | exact list_s _ _ | exact list_t _ _ | exact dEq_int _ _ _ | exact dNe_int _ _ _ | exact dEq_str _ _ _ | exact lf_ne_str | exact tru_bl _ _ | exact tru_int _ _ | exact tru_lst _ _ | exact wk_l _ _ | exact wk_t _ _ | exact wk_s _ _ | exact is_non _ | exact is_non_int _ _ | exact is_non_lst _ _ | exact isn_non _ | exact isn_int _ _ | exact isn_lst _ _ | apply ev_v | apply ev_cons | apply ev_tup | apply ev_items | apply ev_tree | apply ev_box | apply ev_op2 | apply ev_op1 | apply ev_ix | apply ev_tc | apply ev_fc | apply ev_tch | apply ev_fch | apply ev_not | apply ev_fnot | apply ev_tru | apply ev_bi | apply ev_bl | apply ev_call0 | apply ev_calld | apply ex_call0 | apply ex_calld | apply ev_isi | apply ev_isi2 | apply ev_val | apply ev_rgc | apply ev_rg1 | apply ev_tch3 | apply ev_fch3 | apply ev_osome | apply ev_sl | apply lf_mul | apply lf_div | apply lf_mod | apply lf_ix | apply lf_ixt | apply lf_ixo | apply len_obj | apply lf_ix0 | apply lf_ix1 | apply lf_ix2 | apply lf_ix3 | apply lf_ixt0 | apply lf_ixt1 | apply lf_ixt2 | apply lf_ixt3 | apply ev_slT | apply ev_slD | apply ev_slM | apply ev_slL | apply ev_catL | apply ev_repL | apply ev_isE | apply lf_ixz | apply lf_ixtz | apply lf_ixoz | apply lf_powz | apply ev_and | apply ev_or | apply ev_fand | apply ev_for' | apply ev_fif | apply ev_lcY | apply ev_lc) | ((with_reducible apply ev_fzL); exact rfl) | ((with_reducible apply ev_fzS); exact rfl) | ((with_reducible apply ev_fz); (first | exact rfl | (with_reducible assumption)); (first | exact rfl | exact lf_getA0 rfl | exact lf_getA rfl | (with_reducible assumption) | ((simp only [List.getElem?_cons_succ, getA0, getA, List.getElem?_cons_zero, setA0, setA, lenA, List.set_cons_zero, List.set_cons_succ, List.cons_append]) <;> exact rfl))) | ((with_reducible apply ev_fz2); (first | exact rfl | (with_reducible assumption)); (first | exact rfl | exact lf_getA0 rfl | exact lf_getA rfl | (with_reducible assumption) | ((simp only [List.getElem?_cons_succ, getA0, getA, List.getElem?_cons_zero, setA0, setA, lenA, List.set_cons_zero, List.set_cons_succ, List.cons_append]) <;> exact rfl))) | ((with_reducible apply wk_o); (first | exact rfl | exact lf_getA0 rfl | exact lf_getA rfl | (with_reducible assumption) | ((simp only [List.getElem?_cons_succ, getA0, getA, List.getElem?_cons_zero, setA0, setA, lenA, List.set_cons_zero, List.set_cons_succ, List.cons_append]) <;> exact rfl))) | ((with_reducible apply wk_fz); (first | exact rfl | exact lf_getA0 rfl | exact lf_getA rfl | (with_reducible assumption) | ((simp only [List.getElem?_cons_succ, getA0, getA, List.getElem?_cons_zero, setA0, setA, lenA, List.set_cons_zero, List.set_cons_succ, List.cons_append]) <;> exact rfl))) | ((with_reducible apply lk_e); exact rfl) | ((with_reducible apply lk_tup); exact rfl) | ((with_reducible apply lk_m); first | exact rfl | exact lf_getA0 rfl | exact lf_getA rfl | (with_reducible assumption) | ((simp only [List.getElem?_cons_succ, getA0, getA, List.getElem?_cons_zero, setA0, setA, lenA, List.set_cons_zero, List.set_cons_succ, List.cons_append]) <;> exact rfl)) | ((with_reducible apply lk_d); first | exact rfl | (with_reducible assumption)) | ((with_reducible apply lk_mem); (with_reducible assumption)) | ((with_reducible apply lk_ld); first | exact rfl | (with_reducible assumption)) | ((with_reducible apply lk_ist); exact rfl) | ((with_reducible apply lk_l); exact rfl) | ((with_reducible apply lk_z); (simp only [List.cons_append, List.nil_append, List.append_nil]); try exact rfl) | ((with_reducible apply imp_t); intro _) | ((with_reducible apply imp_f); intro _) | ((with_reducible apply lk_g); first | exact trivial | (with_reducible assumption) | exact rfl) | ((with_reducible apply trn); intro _ _; first | (refine ⟨_, rfl, ?_⟩; fail_if_success (refine ⟨?_, ?_⟩)) | refine ⟨_, rfl, ?_, ?_⟩) | ((with_reducible apply lk_t); exact rfl) | ((with_reducible apply lk_k); exact rfl) | ((with_reducible apply lk_k2); exact rfl) | ((with_reducible apply lk_w); first | exact rfl | (with_reducible assumption)) | ((with_reducible first | apply side_le | apply side_lt | apply side_ile | apply side_ilt); first | (with_reducible assumption) | (simp only [List.length_cons, List.length_nil, List.length_map, List.length_range, List.length_append, List.length_singleton, List.length_replicate]; first | (with_reducible assumption) | omega) | omega))

namespace Z
open PySem PySem.Spec PyProof.Rows L2 PySem.W
/-! ### < > <= >= of data that are alike -/
def nnon : PyData → Bool
  | .none => false
  | _ => true
theorem nnon_ne {d : PyData} (h : nnon d = true) : d ≠ .none := fun e => by rw [e] at h; cases h
def cmpOk (μ : Mem) (x y : D) : Bool := D.fit 9 (resD μ x) && D.fit 9 (resD μ y) && alike (resD μ x).py (resD μ y).py && nnon (resD μ x).py
def dLtD : Cm := fun x y μ => if cmpOk μ x y = true then some (dataLt (resD μ x).py (resD μ y).py) else none
def dGtD : Cm := fun x y μ => if cmpOk μ x y = true then some (dataLt (resD μ y).py (resD μ x).py) else none
def dLeD : Cm := fun x y μ => if cmpOk μ x y = true then some (!dataLt (resD μ y).py (resD μ x).py) else none
def dGeD : Cm := fun x y μ => if cmpOk μ x y = true then some (!dataLt (resD μ x).py (resD μ y).py) else none
section
variable {X : L2.Cx} {F : Fx}
theorem cmp_ok {μ : Mem} {x y : D} (h : cmpOk μ x y = true) : D.fit 9 (resD μ x) = true ∧ D.fit 9 (resD μ y) = true ∧ alike (resD μ x).py (resD μ y).py = true ∧ (resD μ x).py ≠ .none := by
  unfold cmpOk at h
  simp only [Bool.and_eq_true] at h
  exact ⟨h.1.1.1, h.1.1.2, h.1.2, nnon_ne h.2⟩
theorem oc_ltD (hF : F.K = X.K) (hu : X.A.units + 70 < cLine) : OpR X (compareOp .Lt) (rB2 F dLtD) := by
  intro pins s σ H x y v u Q I rx ry h
  obtain ⟨g, a, b, k, e, rfl, m, ra, rb, ek, q⟩ := h
  have eK := fxK e hF
  unfold dLtD at ek
  split at ek
  · rename_i hc
    cases ek
    obtain ⟨h1, h2, h3, h4⟩ := cmp_ok hc
    obtain ⟨as, r1⟩ := Dp.reads I _ x v (eK ▸ res_dp m h1 ra) rx
    obtain ⟨bs, r2⟩ := Dp.reads I _ y u (eK ▸ res_dp m h2 rb) ry
    have p1 := fit_plain 9 _ h1
    exact lt_data r1 r2 h3 h4 (by have := p1.2; omega) ⟨.bl _, g.H, I, rfl, q⟩
  · cases ek
theorem oc_gtD (hF : F.K = X.K) (hu : X.A.units + 70 < cLine) : OpR X (compareOp .Gt) (rB2 F dGtD) := by
  intro pins s σ H x y v u Q I rx ry h
  obtain ⟨g, a, b, k, e, rfl, m, ra, rb, ek, q⟩ := h
  have eK := fxK e hF
  unfold dGtD at ek
  split at ek
  · rename_i hc
    cases ek
    obtain ⟨h1, h2, h3, h4⟩ := cmp_ok hc
    obtain ⟨as, r1⟩ := Dp.reads I _ x v (eK ▸ res_dp m h1 ra) rx
    obtain ⟨bs, r2⟩ := Dp.reads I _ y u (eK ▸ res_dp m h2 rb) ry
    have p1 := fit_plain 9 _ h1
    exact gt_data r1 r2 h3 h4 (by have := p1.2; omega) ⟨.bl _, g.H, I, rfl, q⟩
  · cases ek
theorem oc_leD (hF : F.K = X.K) (hu : X.A.units + 70 < cLine) : OpR X (compareOp .LtE) (rB2 F dLeD) := by
  intro pins s σ H x y v u Q I rx ry h
  obtain ⟨g, a, b, k, e, rfl, m, ra, rb, ek, q⟩ := h
  have eK := fxK e hF
  unfold dLeD at ek
  split at ek
  · rename_i hc
    cases ek
    obtain ⟨h1, h2, h3, h4⟩ := cmp_ok hc
    obtain ⟨as, r1⟩ := Dp.reads I _ x v (eK ▸ res_dp m h1 ra) rx
    obtain ⟨bs, r2⟩ := Dp.reads I _ y u (eK ▸ res_dp m h2 rb) ry
    have p1 := fit_plain 9 _ h1
    exact le_data r1 r2 h3 h4 (by have := p1.2; omega) ⟨.bl _, g.H, I, rfl, q⟩
  · cases ek
theorem oc_geD (hF : F.K = X.K) (hu : X.A.units + 70 < cLine) : OpR X (compareOp .GtE) (rB2 F dGeD) := by
  intro pins s σ H x y v u Q I rx ry h
  obtain ⟨g, a, b, k, e, rfl, m, ra, rb, ek, q⟩ := h
  have eK := fxK e hF
  unfold dGeD at ek
  split at ek
  · rename_i hc
    cases ek
    obtain ⟨h1, h2, h3, h4⟩ := cmp_ok hc
    obtain ⟨as, r1⟩ := Dp.reads I _ x v (eK ▸ res_dp m h1 ra) rx
    obtain ⟨bs, r2⟩ := Dp.reads I _ y u (eK ▸ res_dp m h2 rb) ry
    have p1 := fit_plain 9 _ h1
    exact ge_data r1 r2 h3 h4 (by have := p1.2; omega) ⟨.bl _, g.H, I, rfl, q⟩
  · cases ek
end
end Z

namespace Z
open PySem PySem.Spec
section
variable {ρ ρ1 : Env} {μ μ1 μ2 μ' : Mem} {f g : Sem} {t u : SemT} {k : Bool}
/-- and, or: the second part may change the memory -/
theorem ev_fandT (h : f ρ μ = .ok (.bl true) μ1) (h2 : g ρ μ1 = .ok (.bl k) μ2) : fAnd f g ρ μ = .ok (.bl k) μ2 := by
  unfold fAnd
  rw [h, bind_ok]
  show (R.ofP μ1 (some true)).bind _ = _
  rw [ofP_some, bind_ok, if_pos rfl, h2]
theorem ev_forF (h : f ρ μ = .ok (.bl false) μ1) (h2 : g ρ μ1 = .ok (.bl k) μ2) : fOr f g ρ μ = .ok (.bl k) μ2 := by
  unfold fOr
  rw [h, bind_ok]
  show (R.ofP μ1 (some false)).bind _ = _
  rw [ofP_some, bind_ok, if_neg (by simp), h2]
theorem ev_orF (h : t ρ μ = .ok false μ1) (h2 : u ρ μ1 = .ok k μ2) : Z.tOr t u ρ μ = .ok k μ2 := by
  unfold Z.tOr
  rw [h, bind_ok, if_neg (by simp), h2]
theorem ev_andT (h : t ρ μ = .ok true μ1) (h2 : u ρ μ1 = .ok k μ2) : Z.tAnd t u ρ μ = .ok k μ2 := by
  unfold Z.tAnd
  rw [h, bind_ok, if_pos rfl, h2]
end
end Z

namespace Z
open PySem PySem.Spec
/-! ### lists of numbers, of texts, of such lists: plain -/
section
variable {μ : Mem}
abbrev nD (cs : List Nat) : List D := cs.map fun (k : Nat) => D.int (k : Int)
abbrev eW (w : List Nat) : D := .lst (nD w)
abbrev sD (xs : List Str) : List D := xs.map D.str
abbrev eS (xs : List Str) : D := .lst (sD xs)
theorem eqb_eW (a b : List Nat) : D.eqb (eW a) (eW b) = true ↔ a = b := eqb_lmap eqb_nat' a b
theorem in_words (w : List Nat) (ws : List (List Nat)) (μ : Mem) : dIn (eW w) (.lst (ws.map eW)) μ = some (decide (w ∈ ws)) := by
  rw [lf_in rfl (fit_nats 8 _) (fits_map _ _ fun x _ => fit_nats 7 x)]
  congr 1
  rw [List.any_map, Bool.eq_iff_iff, List.any_eq_true, decide_eq_true_eq]
  constructor
  · rintro ⟨x, hx, h⟩
    exact (eqb_eW _ _).mp h ▸ hx
  · exact fun h => ⟨w, h, (eqb_eW _ _).mpr rfl⟩
theorem notin_words (w : List Nat) (ws : List (List Nat)) (μ : Mem) : dNotIn (eW w) (.lst (ws.map eW)) μ = some (!decide (w ∈ ws)) := by
  unfold dNotIn
  rw [in_words]; rfl
theorem eqW (a b : List Nat) (μ : Mem) : dEq (eW a) (eW b) μ = some (decide (a = b)) := eq_nats a b μ
/-- no word stands twice -/
def once (ws : List (List Nat)) : Bool := ((List.range ws.length).filter fun a => decide (ws.getD a [] ∈ ws.take a)).isEmpty
theorem in_wordsT (w : List Nat) (ws : List (List Nat)) (k : Nat) (μ : Mem) : dIn (eW w) (.lst ((ws.map eW).take k)) μ = some (decide (w ∈ ws.take k)) := by rw [← List.map_take]; exact in_words _ _ _
theorem ixW {ws : List (List Nat)} {a : Nat} (ha : a ∈ List.range (ws.map eW).length) (μ : Mem) : dIx (.lst (ws.map eW)) (.int (a : Int)) μ = .ok (eW (ws.getD a [])) μ := by
  have h := List.mem_range.mp ha
  rw [List.length_map] at h
  exact lf_ix (by rw [List.getElem?_map, List.getD_eq_getElem?_getD, List.getElem?_eq_getElem h]; rfl)
theorem WS.ext {ρ : Z.Env} {μ2 : Mem} {i n : Nat} {ds0 ds es : List D} {d : D} {x : Z.Sem} {k : SemS} {Q : RS → Prop} (ho : ρ[i]? = some (some (.obj n))) (h : μ[n]? = some (.lst ds0)) (hx : x ρ μ = .ok d μ2) (h2 : μ2[n]? = some (.lst ds)) (hw : lstW μ2 d = some es) (hl : ds.length + es.length ≤ 1000)
    (r : WS k ρ (μ2.set n (.lst (ds ++ es))) Q) : WS (sSeq (sDrop (fMtT "list" dExtend (fV i) (fCons x fNil))) k) ρ μ Q := by
  refine .drop (d := .non) (μ' := μ2.set n (.lst (ds ++ es))) ?_ r
  rw [mt_list (ev_v ho) (lst_obj h), cons1_eq hx, bind_ok]
  unfold dExtend
  have e1 : cellL μ2 (.obj n) = some (n, ds) := by simp [cellL, h2]
  simp only [e1, hw]
  rw [if_pos (Nat.le_trans hl (by rw [sizeLine_eq]; decide))]
  rfl
/-- all rows, in order -/
def rowsN (c : Nat) : Nat → List (List Nat)
  | 0 => [[]]
  | k + 1 => (rowsN c k).flatMap fun row => (List.range c).map fun col => row ++ [col]
theorem rowsN_len (c : Nat) : ∀ k, (rowsN c k).length = c ^ k
  | 0 => rfl
  | k + 1 => by
    unfold rowsN
    rw [List.length_flatMap]
    have : ((rowsN c k).map fun row => ((List.range c).map fun col => row ++ [col]).length) = (rowsN c k).map fun _ => c := List.map_congr_left fun r _ => by simp
    rw [this, List.map_const', List.sum_replicate_nat, rowsN_len c k, Nat.pow_succ]
theorem rowsN_mem (c : Nat) : ∀ k, ∀ q ∈ rowsN c k, q.length = k
  | 0, q, h => by simp [rowsN] at h; simp [h]
  | k + 1, q, h => by
    unfold rowsN at h
    obtain ⟨r, hr, h⟩ := List.mem_flatMap.mp h
    obtain ⟨col, _, rfl⟩ := List.mem_map.mp h
    simp [rowsN_mem c k r hr]
theorem flat_len (c : Nat) : ∀ p : List (List Nat), (p.flatMap fun row => (List.range c).map fun col => row ++ [col]).length = p.length * c
  | [] => by simp
  | x :: p => by rw [List.flatMap_cons, List.length_append, flat_len c p, List.length_map, List.length_range, List.length_cons, Nat.succ_mul]; omega
theorem pys_nD : ∀ xs : List Nat, D.pys (nD xs) = xs.map fun (k : Nat) => PyData.int (k : Int)
  | [] => rfl
  | x :: xs => by
    show PyData.int _ :: D.pys (nD xs) = _
    rw [pys_nD xs]; rfl
theorem py_eW (xs : List Nat) : D.py (eW xs) = .list (xs.map fun (k : Nat) => PyData.int (k : Int)) := by
  show PyData.list (D.pys (nD xs)) = _
  rw [pys_nD]
theorem alikeI : ∀ xs ys : List Nat, PySem.W.alikeAll (xs.map fun (k : Nat) => PyData.int (k : Int)) (ys.map fun (k : Nat) => PyData.int (k : Int)) = true
  | [], _ => by simp [PySem.W.alikeAll]
  | _ :: _, [] => by simp [PySem.W.alikeAll]
  | x :: xs, y :: ys => by
    simp only [List.map_cons, PySem.W.alikeAll, PySem.W.alike, Bool.true_and]
    exact alikeI xs ys
def intsL (xs : List Nat) : List Int := xs.map fun (k : Nat) => (k : Int)
def leR (p q : List Nat) : Bool := decide (intsL p ≤ intsL q)
theorem le_eW (p q : List Nat) : PySem.W.dataLe false D.py (eW p) (eW q) = leR p q := by
  have := congrFun (congrFun (PySem.W.dataLe_rows (β := List Nat) intsL) p) q
  unfold leR
  rw [← this]
  rw [PySem.W.dataLe_eq, PySem.W.dataLe_eq]
  have e : ∀ xs : List Nat, D.py (eW xs) = PyData.list ((intsL xs).map .int) := fun xs => by rw [py_eW]; unfold intsL; rw [List.map_map]; rfl
  simp only [cond, e]
theorem merge_map {α β : Type} (f : α → β) (le : α → α → Bool) (le' : β → β → Bool) (h : ∀ a b, le' (f a) (f b) = le a b) (xs : List α) : (xs.map f).mergeSort le' = (xs.mergeSort le).map f := by
  rw [List.map_mergeSort]
  intro a _ b _
  exact (h a b).symm
theorem sortW (ws : List (List Nat)) (hw : ∀ w ∈ ws, w.length ≤ 1000) (μ : Mem) : dSortD [.lst (ws.map eW)] μ = .ok (((ws.mergeSort leR)).map eW) μ := by
  have hA : alikeB (ws.map eW) = true := by
    unfold alikeB
    rw [List.all_eq_true]
    intro a ha
    rw [List.all_eq_true]
    intro b hb
    obtain ⟨x, _, rfl⟩ := List.mem_map.mp ha
    obtain ⟨y, _, rfl⟩ := List.mem_map.mp hb
    rw [py_eW, py_eW]
    simp only [PySem.W.alike]
    exact alikeI x y
  have hB : sortableB (ws.map eW) = true := by
    unfold sortableB
    rw [Bool.or_eq_true]
    right
    rw [List.all_eq_true]
    intro a ha
    obtain ⟨x, _, rfl⟩ := List.mem_map.mp ha
    rw [py_eW]; rfl
  unfold dSortD
  simp only [lstD]
  rw [if_pos ⟨fits_map _ _ fun x _ => fit_nats 8 x, hA, hB⟩]
  exact congrArg (R.ok · μ) (merge_map eW leR _ le_eW ws)
/-! ### all rows stand in order, and are all rows -/
theorem leR_trans (a b c : List Nat) (h1 : leR a b = true) (h2 : leR b c = true) : leR a c = true := by
  unfold leR at *
  exact decide_eq_true (List.le_trans (of_decide_eq_true h1) (of_decide_eq_true h2))
theorem leR_total (a b : List Nat) : (leR a b || leR b a) = true := by
  unfold leR
  rw [Bool.or_eq_true, decide_eq_true_eq, decide_eq_true_eq]
  exact List.le_total _ _
theorem intsL_inj {a b : List Nat} (h : intsL a = intsL b) : a = b := by
  unfold intsL at h
  exact List.map_inj_right (fun x y h => by omega) |>.mp h
theorem leR_anti {a b : List Nat} (h1 : leR a b = true) (h2 : leR b a = true) : a = b := intsL_inj (List.le_antisymm (of_decide_eq_true h1) (of_decide_eq_true h2))
theorem leR_app (p q : List Nat) (hl : p.length = q.length) (a b : Nat) (h : leR p q = true) (hne : p ≠ q) : leR (p ++ [a]) (q ++ [b]) = true := by
  unfold leR at *
  have h := of_decide_eq_true h
  refine decide_eq_true ?_
  have hlt : intsL p < intsL q := by
    rcases List.le_iff_lt_or_eq.mp h with h | h
    · exact h
    · exact absurd (intsL_inj h) hne
  refine List.le_of_lt ?_
  have hl' : (intsL p).length = (intsL q).length := by simp [intsL, hl]
  have e1 : intsL (p ++ [a]) = intsL p ++ [(a : Int)] := by simp [intsL]
  have e2 : intsL (q ++ [b]) = intsL q ++ [(b : Int)] := by simp [intsL]
  rw [e1, e2]
  rw [List.lt_iff_exists] at hlt ⊢
  rcases hlt with ⟨h1, h2⟩ | ⟨i, h1, h2, h3, h4⟩
  · omega
  · refine .inr ⟨i, by simp; omega, by simp; omega, fun j hj => ?_, ?_⟩
    · rw [List.getElem_append_left (by omega), List.getElem_append_left (by omega)]; exact h3 j hj
    · rw [List.getElem_append_left h1, List.getElem_append_left h2]; exact h4
theorem rows_sorted (c : Nat) : ∀ k, (rowsN c k).Pairwise fun p q => leR p q = true ∧ p ≠ q
  | 0 => by simp [rowsN]
  | k + 1 => by
    unfold rowsN
    rw [List.pairwise_flatMap]
    refine ⟨fun row _ => ?_, (rows_sorted c k).imp_of_mem fun {p q} hp hq h => ?_⟩
    · rw [List.pairwise_map]
      refine List.pairwise_lt_range.imp fun {a b} hab => ⟨?_, fun z => ?_⟩
      · unfold leR
        refine decide_eq_true (List.le_of_lt ?_)
        have e : ∀ x : Nat, intsL (row ++ [x]) = intsL row ++ [(x : Int)] := fun x => by simp [intsL]
        rw [e, e]
        rw [List.lt_iff_exists]
        refine .inr ⟨(intsL row).length, by simp, by simp, fun j hj => ?_, by simpa using hab⟩
        rw [List.getElem_append_left hj, List.getElem_append_left hj]
      · have := List.append_cancel_left z
        simp at this; omega
    · intro x hx y hy
      obtain ⟨a, _, rfl⟩ := List.mem_map.mp hx
      obtain ⟨b, _, rfl⟩ := List.mem_map.mp hy
      have l1 := rowsN_mem c k p hp
      have l2 := rowsN_mem c k q hq
      refine ⟨leR_app p q (by omega) a b h.1 h.2, fun z => h.2 ?_⟩
      exact (List.append_inj z (by omega)).1
theorem rows_nodup (c k : Nat) : (rowsN c k).Nodup := List.nodup_iff_pairwise_ne.mpr ((rows_sorted c k).imp fun h => h.2)
theorem rows_all (c : Nat) : ∀ (k : Nat) (w : List Nat), w.length = k → (∀ x ∈ w, x < c) → w ∈ rowsN c k
  | 0, w, h, _ => by rw [List.length_eq_zero_iff.mp h]; simp [rowsN]
  | k + 1, w, h, hb => by
    have hne : w ≠ [] := fun z => by rw [z] at h; simp at h
    unfold rowsN
    rw [List.mem_flatMap]
    refine ⟨w.dropLast, rows_all c k _ (by simp [h]) fun x hx => hb x (List.dropLast_subset _ hx), List.mem_map.mpr ⟨w.getLast hne, List.mem_range.mpr (hb _ (List.getLast_mem hne)), List.dropLast_concat_getLast hne⟩⟩
theorem sub_perm {α : Type} [DecidableEq α] : ∀ {xs ys : List α}, xs.Nodup → (∀ x ∈ xs, x ∈ ys) → ∃ zs, ys.Perm (xs ++ zs)
  | [], ys, _, _ => ⟨ys, List.Perm.refl _⟩
  | x :: xs, ys, h, hs => by
    rw [List.nodup_cons] at h
    have hx := hs x (by simp)
    have p := List.perm_cons_erase hx
    obtain ⟨zs, q⟩ := sub_perm (xs := xs) (ys := ys.erase x) h.2 fun y hy => (List.mem_erase_of_ne (show y ≠ x from fun z => h.1 (z ▸ hy))).mpr (hs y (by simp [hy]))
    exact ⟨zs, p.trans (q.cons x)⟩
theorem once_nodup (ws : List (List Nat)) : once ws = true ↔ ws.Nodup := by
  unfold once
  rw [List.isEmpty_iff, List.filter_eq_nil_iff, List.nodup_iff_pairwise_ne, List.pairwise_iff_getElem]
  constructor
  · intro h i j hi hj hij z
    have := h j (List.mem_range.mpr hj)
    rw [decide_eq_true_eq, List.getD_eq_getElem?_getD, List.getElem?_eq_getElem hj, Option.getD_some] at this
    refine this ?_
    rw [← z]
    rw [List.mem_take_iff_getElem]
    exact ⟨i, by omega, rfl⟩
  · intro h j hj z
    have hj := List.mem_range.mp hj
    rw [decide_eq_true_eq, List.getD_eq_getElem?_getD, List.getElem?_eq_getElem hj, Option.getD_some, List.mem_take_iff_getElem] at z
    obtain ⟨i, hi, e⟩ := z
    exact h i j (by omega) hj (by omega) e
theorem nD_app (a b : List Nat) : nD a ++ nD b = nD (a ++ b) := by simp [nD]
theorem eW_app (S : List (List Nat)) (w : List Nat) : S.map eW ++ [eW w] = (S ++ [w]).map eW := by simp
theorem rep_nD (l : Nat) : (List.replicate l [D.int 0]).flatten = nD (List.replicate l 0) := by
  unfold nD
  rw [List.map_replicate]
  induction l with
  | zero => rfl
  | succ k ih => rw [List.replicate_succ, List.replicate_succ, List.flatten_cons, ih]; rfl
theorem cl_nD (r : List Nat) : ∀ d ∈ nD r, d.cl := cl_map (fun k => cl_int _) _
theorem find_first {p : Nat → Bool} : ∀ xs : List Nat, (xs.filter p)[0]? = xs.find? p
  | [] => rfl
  | x :: xs => by
    rw [List.filter_cons, List.find?_cons]
    cases p x
    · simpa using find_first xs
    · rfl
theorem in_nats (k : Nat) (xs : List Nat) (μ : Mem) : dIn (.int (k : Int)) (.lst (nD xs)) μ = some (decide (k ∈ xs)) := by
  rw [lf_in rfl rfl (fits_map _ _ fun x _ => rfl)]
  congr 1
  rw [List.any_map, Bool.eq_iff_iff, List.any_eq_true, decide_eq_true_eq]
  constructor
  · rintro ⟨x, hx, h⟩
    exact (eqb_nat' x k).mp h ▸ hx
  · exact fun h => ⟨k, h, (eqb_nat' k k).mpr rfl⟩
theorem idx_ok {k : Nat} {xs : List Nat} (h : k ∈ xs) (μ : Mem) : dIndex (.lst (nD xs)) [.int (k : Int)] μ = .ok (.int (xs.idxOf k : Nat)) μ := by
  have hf : flatD (.int (k : Int)) = true ∧ (nD xs).all flatD = true := by
    refine ⟨rfl, ?_⟩
    rw [List.all_map, List.all_eq_true]
    exact fun x _ => rfl
  have hi : (nD xs).findIdx? (fun d => eqF d (.int (k : Int))) = some (xs.idxOf k) := by
    unfold nD
    rw [List.findIdx?_map]
    rw [List.findIdx?_eq_some_iff_getElem]
    have hl := List.idxOf_lt_length_of_mem h
    refine ⟨hl, ?_, fun j hj => ?_⟩
    · simp [Function.comp, eqF]
    · have := List.not_of_lt_findIdx (p := (· == k)) (xs := xs) (i := j) hj
      simp [Function.comp, eqF] at this ⊢
      omega
  unfold dIndex
  simp only [lstD]
  rw [if_pos hf, hi]
theorem ixN {xs : List Nat} {a : Nat} (h : a < xs.length) (μ : Mem) : dIx (.lst (nD xs)) (.int (a : Int)) μ = .ok (.int (xs.getD a 0 : Nat)) μ := lf_ixk (by rw [List.getD_eq_getElem?_getD, List.getElem?_eq_getElem h]; rfl)
theorem idx_t {k : Nat} {xs : List Nat} (h : k ∈ xs) {f g : Z.Sem} {ρ : Z.Env} {μ : Mem} (hf : f ρ μ = .ok (.lst (nD xs)) μ) (hg : g ρ μ = .ok (.int (k : Int)) μ) : fMtT "list" dIndex f (fCons g fNil) ρ μ = .ok (.int (xs.idxOf k : Nat)) μ := by
  rw [mt_list hf rfl, cons1_eq hg, bind_ok]
  exact idx_ok h _
theorem getD_l {xs ys : List Nat} {i : Nat} (h : i < xs.length) : (xs ++ ys).getD i 0 = xs.getD i 0 := by
  rw [List.getD_eq_getElem?_getD, List.getD_eq_getElem?_getD, List.getElem?_append_left h]
theorem getD_r {xs ys : List Nat} {i : Nat} (h : xs.length ≤ i) : (xs ++ ys).getD i 0 = ys.getD (i - xs.length) 0 := by
  rw [List.getD_eq_getElem?_getD, List.getD_eq_getElem?_getD, List.getElem?_append_right h]
theorem getD_take {xs : List Nat} {i k : Nat} (h : i < k) : (xs.take k).getD i 0 = xs.getD i 0 := by
  rw [List.getD_eq_getElem?_getD, List.getD_eq_getElem?_getD, List.getElem?_take, if_pos h]
theorem getD_drop {xs : List Nat} {i k : Nat} : (xs.drop k).getD i 0 = xs.getD (k + i) 0 := by
  rw [List.getD_eq_getElem?_getD, List.getD_eq_getElem?_getD, List.getElem?_drop]
theorem gcd_ok (s b : Nat) (μ : Mem) : dGcd [.int (s : Int), .int (b : Int)] μ = .ok (.int ((Nat.gcd s b : Nat) : Int)) μ := rfl
theorem sum_nD (cs : List Nat) (μ : Mem) : dSum [.lst (nD cs)] μ = .ok (.int (cs.sum : Nat)) μ := by
  have e1 : nD cs = (cs.map fun (k : Nat) => (k : Int)).map D.int := by unfold nD; rw [List.map_map]; rfl
  have e2 : ∀ cs : List Nat, (cs.map fun (k : Nat) => (k : Int)).sum = (cs.sum : Nat) := fun cs => by
    induction cs with
    | nil => rfl
    | cons x xs ih => simp only [List.map_cons, List.sum_cons, ih]; omega
  have e3 : (lstD μ (.lst (nD cs))).bind intsD = some (cs.map fun (k : Nat) => (k : Int)) := by
    rw [e1]; exact ints_D _
  unfold dSum
  simp only [e3, e2]
def uN : D → Option Nat
  | .int i => some i.toNat
  | _ => none
def srtN (xs : List Nat) : List Nat := srtG (fun (k : Nat) => D.int (k : Int)) uN xs
theorem uN_e (k : Nat) : uN (D.int (k : Int)) = some k := rfl
theorem srtN_map (xs : List Nat) : nD (srtN xs) = sortD (nD xs) := srtG_map (e := fun (k : Nat) => D.int (k : Int)) uN_e xs
theorem srtN_perm (xs : List Nat) : (srtN xs).Perm xs := srtG_perm (e := fun (k : Nat) => D.int (k : Int)) uN_e xs
theorem frmN (xs : List Nat) : frmOk (nD xs) = some .ints := by
  cases xs with
  | nil => rfl
  | cons x xs =>
    unfold frmOk
    show (if _ then _ else _) = _
    rw [if_pos]
    rw [List.all_eq_true]
    intro d hd
    obtain ⟨y, _, rfl⟩ := List.mem_map.mp hd
    rfl
theorem sort_nD (xs : List Nat) (μ : Mem) : dSort [.lst (nD xs)] μ = .ok (nD (srtN xs)) μ := by
  unfold dSort
  simp only [lstD, frmN, srtN_map]
theorem nD_inj {a b : List Nat} (h : nD a = nD b) : a = b := (List.map_inj_right (fun x y h => by injection h with h; omega)).mp h
theorem srtN_eq {a b : List Nat} (h : a.Perm b) : srtN a = srtN b := by
  refine nD_inj ?_
  rw [srtN_map, srtN_map]
  exact sortD_uniq (f := .ints) (fun d hd => by obtain ⟨y, _, rfl⟩ := List.mem_map.mp hd; rfl) ((sortD_perm _).trans (h.map _)) (sortD_sorted _)
theorem truL (ring : List Nat) (μ : Mem) : truD μ (.lst (nD ring)) = some (!ring.isEmpty) := by
  cases ring <;> rfl
theorem lenI (a b : Nat) : decide ((a : Int) = (b : Int)) = decide (a = b) := by
  by_cases h : a = b
  · subst h; simp
  · rw [decide_eq_false h, decide_eq_false (by omega)]
theorem revL_ok (r : List Nat) {f : Z.Sem} {ρ : Z.Env} {μ μ1 : Mem} (h : f ρ μ = .ok (.lst (nD r)) μ1) : fRevL f ρ μ = .ok (nD r.reverse) μ1 := by
  rw [show nD r.reverse = (nD r).reverse by simp [nD]]
  exact ev_revL h rfl
theorem cnt_ok (ring : List Nat) (k : Nat) (μ : Mem) : dCount (.lst (nD ring)) [.int (k : Int)] μ = .ok (.int (ring.count k : Nat)) μ := by
  have e1 : nD ring = (ring.map fun (k : Nat) => (k : Int)).map D.int := by unfold nD; rw [List.map_map]; rfl
  have e3 : (lstD μ (.lst (nD ring))).bind intsD = some (ring.map fun (k : Nat) => (k : Int)) := by
    rw [e1]; exact ints_D _
  unfold dCount
  simp only [e3]
  congr 3
  induction ring with
  | nil => rfl
  | cons x xs ih =>
    rw [List.map_cons, List.count_cons, List.count_cons, ih (by unfold nD; rw [List.map_map]; rfl) (by rw [show nD xs = (xs.map fun (k : Nat) => (k : Int)).map D.int by unfold nD; rw [List.map_map]; rfl]; exact ints_D _)]
    congr 1
    by_cases h : x = k
    · subst h; simp
    · have h1 : ((x : Int) == (k : Int)) = false := by simp; omega
      have h2 : (x == k) = false := by simpa using h
      rw [h1, h2]
def minN (r : List Nat) (rs : List (List Nat)) : List Nat := rs.foldl (fun a y => if leR a y then a else y) r
theorem minPy_map (r : List Nat) : ∀ rs : List (List Nat), minPy (eW r) (rs.map eW) = eW (minN r rs) := by
  intro rs
  induction rs generalizing r with
  | nil => rfl
  | cons y rs ih =>
    have h := le_eW r y
    rw [PySem.W.dataLe_eq] at h
    simp only [cond] at h
    unfold minPy minN at *
    rw [List.map_cons, List.foldl_cons, List.foldl_cons]
    rw [← h]
    cases PySem.W.dataLt (D.py (eW y)) (D.py (eW r)) with
    | true => simpa using ih y
    | false => simpa using ih r
theorem alikeW (ws : List (List Nat)) : alikeB (ws.map eW) = true := by
  unfold alikeB
  rw [List.all_eq_true]
  intro a ha
  rw [List.all_eq_true]
  intro b hb
  obtain ⟨x, _, rfl⟩ := List.mem_map.mp ha
  obtain ⟨y, _, rfl⟩ := List.mem_map.mp hb
  rw [py_eW, py_eW]
  simp only [PySem.W.alike]
  exact alikeI x y
theorem minW {ws : List (List Nat)} {r : List Nat} {rs : List (List Nat)} (h : ws = r :: rs) (μ : Mem) : dMinD [.lst (ws.map eW)] μ = .ok (eW (minN r rs)) μ := by
  subst h
  have h1 : D.fits 9 ((r :: rs).map eW) = true := fits_map _ _ fun x _ => fit_nats 8 x
  have h2 := alikeW (r :: rs)
  have h3 : oneNon ((r :: rs).map eW) = true := by
    unfold oneNon
    rw [List.all_eq_true]
    intro d hd
    obtain ⟨x, _, rfl⟩ := List.mem_map.mp hd
    rfl
  unfold dMinD
  rw [List.map_cons] at h1 h2 h3 ⊢
  simp only [lstD]
  rw [if_pos ⟨h1, h2, h3⟩, minPy_map]
theorem add1 (n : Nat) (μ : Mem) : dAdd (.int (n : Nat)) (.int 1) μ = .ok (.int ((n + 1 : Nat) : Int)) μ := by rw [Z.add_int]; rfl
end
/-! ### defs: the memory changes in place, and boxes of its own go -/
theorem fn_okX {N : Nat} {b : SemS} {ds : List D} {μ μ' : Mem} {d : D} (hl : μ'.length = μ.length) (hb : μ'.all (Cell.below μ'.length) = true) (hd : D.lo μ.length d = true) (h : WS b (startD N ds) μ fun r => ∃ ex, r = .ret d (μ' ++ ex)) : dfn N b ds μ = .ok d μ' := by
  unfold dfn
  obtain ⟨ex, h⟩ := h
  rw [h]
  unfold cleanD
  simp only
  by_cases hx : (μ' ++ ex).length = μ.length
  · have : ex = [] := by
      cases ex with
      | nil => rfl
      | cons a b => rw [List.length_append, hl] at hx; simp at hx
    subst this
    rw [List.append_nil] at *
    rw [if_pos hl]
  · rw [if_neg hx]
    have ht : (μ' ++ ex).take μ.length = μ' := by rw [← hl]; simp
    rw [ht, if_pos ⟨by simp; omega, by rw [← hl]; exact hb, hd⟩]
section
variable {α β : Type} {i : SemI} {a : Tgt} {t : SemT} {e : Sem} {own : List Nat} {ρ : Env} {gd : Grd}
theorem lcL_TJ {toD : α → D} {toE : β → D} (J : List α → List β → Mem → Prop)
    (hs : ∀ x rest ys μ, J (x :: rest) ys μ → ∃ ρ1, a (toD x) ρ = some ρ1 ∧ ∃ k μ2, t ρ1 μ = .ok k μ2 ∧ ((k = true ∧ ∃ y μ3, e ρ1 μ2 = .ok (toE y) μ3 ∧ gd.ok μ3 ∧ J rest (ys ++ [y]) μ3) ∨ (k = false ∧ gd.ok μ2 ∧ J rest ys μ2))) :
    ∀ (xs : List α) (ys : List β) (μ : Mem), J xs ys μ → ∃ zs μ', lcL gd a t e ρ (xs.map toD) μ = .ok (zs.map toE) μ' ∧ J [] (ys ++ zs) μ'
  | [], ys, μ, h => ⟨[], μ, rfl, by simpa using h⟩
  | x :: xs, ys, μ, h => by
    obtain ⟨ρ1, h1, k, μ2, h2, h3⟩ := hs x xs ys μ h
    rcases h3 with ⟨rfl, y, μ3, h4, h5, h6⟩ | ⟨rfl, h5, h6⟩
    · obtain ⟨zs, μ', g1, g2⟩ := lcL_TJ J hs xs _ _ h6
      refine ⟨y :: zs, μ', ?_, by simpa using g2⟩
      simp only [List.map_cons, lcL, h1, h2, R.bindB, if_true, h4, lcG]
      rw [if_pos h5, g1]
    · obtain ⟨zs, μ', g1, g2⟩ := lcL_TJ J hs xs _ _ h6
      refine ⟨zs, μ', ?_, g2⟩
      simp only [List.map_cons, lcL, h1, h2, R.bindB, lcG]
      rw [if_neg (by simp), if_pos h5, g1]
theorem fLc_TJ {toD : α → D} {toE : β → D} {xs : List α} {μ μ1 : Mem} (J : List α → List β → Mem → Prop) (hi : i ρ μ = .ok ⟨xs.map toD, gd⟩ μ1) (hl : xs.length ≤ 1000) (h0 : J xs [] μ1)
    (hs : ∀ x rest ys μ, J (x :: rest) ys μ → ∃ ρ1, a (toD x) (wipeD ρ own) = some ρ1 ∧ ∃ k μ2, t ρ1 μ = .ok k μ2 ∧ ((k = true ∧ ∃ y μ3, e ρ1 μ2 = .ok (toE y) μ3 ∧ gd.ok μ3 ∧ J rest (ys ++ [y]) μ3) ∨ (k = false ∧ gd.ok μ2 ∧ J rest ys μ2))) :
    ∃ ys μ', fLc i a t e own ρ μ = .ok (ys.map toE) μ' ∧ J [] ys μ' := by
  obtain ⟨zs, μ', g1, g2⟩ := lcL_TJ (gd := gd) J hs xs [] μ1 h0
  refine ⟨zs, μ', ?_, by simpa using g2⟩
  unfold fLc
  rw [hi, bind_ok, if_pos (by rw [List.length_map]; exact sl1000 hl)]
  exact g1
end
end Z

namespace K77
open PySem PySem.Spec PyProof.Rows L2 Z
def bd : List Stmt := PySem.Challenge.pw_innworth_k77_places_of_orders.main.body
abbrev d_MOST : D := (.int 40)
abbrev d_GREATEST : D := (.int 1000000)
def cat_InnError : Str → Option Bool := fun c => if c = "InvalidNumber" then some true else if c = "TooMany" then some true else if c = "InvalidPaper" then some true else none
def ecs : List Str := ["InvalidNumber", "TooMany", "InvalidPaper"]
def isa_InvalidNumber : Str → Option Bool := fun c => if c = "InvalidNumber" then some true else if c = "TooMany" then some false else if c = "InvalidPaper" then some false else none
def isa_InvalidPaper : Str → Option Bool := fun c => if c = "InvalidNumber" then some false else if c = "TooMany" then some false else if c = "InvalidPaper" then some true else none
def isa_ValueError : Str → Option Bool := fun c => if c = "InvalidNumber" then some true else if c = "TooMany" then some true else if c = "InvalidPaper" then some true else none
structure Mod (K : PySem.W.Frag) (mg : Str → Option Value) (F : Fx) : Prop where
  g_isinstance : mg "isinstance" = none
  g_bool : mg "bool" = none
  g_int : mg "int" = none
  g_str : mg "str" = none
  g_len : mg "len" = none
  g_range : mg "range" = none
  g_list : mg "list" = none
  g_reversed : mg "reversed" = none
  g_tuple : mg "tuple" = none
  g_abs : mg "abs" = none
  g_sorted : mg "sorted" = none
  g_ValueError : mg "ValueError" = none
  c_MOST : Con1 mg "MOST" d_MOST
  x_InvalidNumber : XCls K mg F.xc "InvalidNumber"
  x_TooMany : XCls K mg F.xc "TooMany"
  x_InvalidPaper : XCls K mg F.xc "InvalidPaper"
  t_InnError : Cat K mg F.xc "InnError" cat_InnError
  ec : ExcCs K F.xc ecs
  i_InvalidNumber : IsE K mg F.xc "InvalidNumber" isa_InvalidNumber
  i_InvalidPaper : IsE K mg F.xc "InvalidPaper" isa_InvalidPaper
  i_ValueError : IsE K mg F.xc "ValueError" isa_ValueError
def s_is_number : Stmt := bd.getD 7 (.Pass ⟨0, 0, 0, 0⟩)
def n_is_number : List Str := ["value", "least", "most"]
theorem sc_is_number : FnScope n_is_number ["value", "least", "most"] (defScope s_is_number) := ⟨rfl, rfl, rfl, by decide +kernel, rfl, by decide +kernel, by decide +kernel⟩
noncomputable def b_is_number : SemS := (sSeq (sIf (tOr (fTru (fIsI .bl (fV 0))) (tNot (fTru (fIsI .int (fV 0))))) (sRet (fC (.bl false))) sNext) (sRet (fChain dLe dLe (fV 1) (fV 0) (fV 2))))
noncomputable def S_is_number : DFn := dfn 3 b_is_number
theorem d_is_number {P : Program} {w : World} {K : PySem.W.Frag} {mg : Str → Option Value} {base : Heap} {F : Fx} (hF : F.K = K) (hx : F.xo = none) (M : Mod K mg F) {f : Addr} (cdv : Value) (A : Around) (outer : List PySem.Env) (s : Shared) (H : Hp) (E : XK) (hr : Room 0 (A.deeper (envOfC "is_number" (defScope s_is_number) s.heap.objs.size f cdv))) :
  SSs (cxOf (L2.CX P w) P w K mg base n_is_number "is_number" (defScope s_is_number) f cdv A outer s H E) F (fun c d _ H' => E c d H') (defBody s_is_number) b_is_number := by
  have C := ctx_of (P := P) (w := w) (mg := mg) (base := base) (N := n_is_number) (qual := "is_number") (sc := defScope s_is_number) (f := f) (cdv := cdv) (A := A) (outer := outer) (s := s) (H := H) (E := E) (F := F) (L := 0) hF (by decide +kernel) hr
  exact (sss_cons (ss_if ((sw_or (st_tru C.k (se_isi .bl C.k M.g_isinstance M.g_bool (se_v 0))) (sw_or1 (st_not (st_tru C.k (se_isi .int C.k M.g_isinstance M.g_int (se_v 0))))))).st (sss_one (ss_ret se_bl)) sss_nil)
  (sss_one (ss_ret (se_chain oc_le oc_le (se_v 1) (se_v 0) (se_v 2)))))
def s__law_pool : Stmt := bd.getD 22 (.Pass ⟨0, 0, 0, 0⟩)
def n__law_pool : List Str := ["script"]
theorem sc__law_pool : FnScope n__law_pool ["script"] (defScope s__law_pool) := ⟨rfl, rfl, rfl, by decide +kernel, rfl, by decide +kernel, by decide +kernel⟩
noncomputable def b__law_pool : SemS := (sRet (fBox (fItems (fCons (fTree (fBl dList (fCons (fV 0) fNil))) (fCons (fC (.int 0)) (fCons (fC (.int 0)) (fCons (fC (.int 0)) (fCons (fC (.int 0)) fNil))))))))
noncomputable def S__law_pool : DFn := dfk 1 b__law_pool
theorem d__law_pool {P : Program} {w : World} {K : PySem.W.Frag} {mg : Str → Option Value} {base : Heap} {F : Fx} (hF : F.K = K) (hx : F.xo = none) (M : Mod K mg F) {f : Addr} (cdv : Value) (A : Around) (outer : List PySem.Env) (s : Shared) (H : Hp) (E : XK) (hr : Room 0 (A.deeper (envOfC "_law_pool" (defScope s__law_pool) s.heap.objs.size f cdv))) :
  SSs (cxOf (L2.CX P w) P w K mg base n__law_pool "_law_pool" (defScope s__law_pool) f cdv A outer s H E) F (fun c d _ H' => E c d H') (defBody s__law_pool) b__law_pool := by
  have C := ctx_of (P := P) (w := w) (mg := mg) (base := base) (N := n__law_pool) (qual := "_law_pool") (sc := defScope s__law_pool) (f := f) (cdv := cdv) (A := A) (outer := outer) (s := s) (H := H) (E := E) (F := F) (L := 0) hF (by decide +kernel) hr
  exact (sss_one (ss_ret (se_box (sf_lst (sa_cons (se_tree (sf_bty (cf_list C.k) cm_list M.g_list (sa_cons (se_v 0) sa_nil))) (sa_cons se_int (sa_cons se_int (sa_cons se_int (sa_cons se_int sa_nil)))))))))
def s__law_draw : Stmt := bd.getD 23 (.Pass ⟨0, 0, 0, 0⟩)
def n__law_draw : List Str := ["pool", "many", "found", "cell", "mixed"]
theorem sc__law_draw : FnScope n__law_draw ["pool", "many"] (defScope s__law_draw) := ⟨rfl, rfl, rfl, by decide +kernel, rfl, by decide +kernel, by decide +kernel⟩
noncomputable def b__law_draw : SemS := (sSeq (sIf (tCmp dGt (fIx (fV 0) (fC (.int 2))) (fC (.int 0))) (sSeq (sSet 2 (fOp2 dMod (fBi dInt (fCons (fIx (fV 0) (fC (.int 2))) fNil)) (fV 1))) (sSeq (sSetI (fV 0) (fC (.int 2)) (fOp2 dDiv (fIx (fV 0) (fC (.int 2))) (fV 1))) (sRet (fV 2)))) sNext) (sSeq (sIf (tAnd (tCmp dEq (fOp2 dMod (fBi dInt (fCons (fIx (fV 0) (fC (.int 4))) fNil)) (fC (.int 8))) (fC (.int 0))) (tCmp dLt (fIx (fV 0) (fC (.int 1))) (fBi dLen (fCons (fIx (fV 0) (fC (.int 0))) fNil)))) (sSeq (sSet 3 (fBi dAbs (fCons (fIx (fIx (fV 0) (fC (.int 0))) (fIx (fV 0) (fC (.int 1)))) fNil))) (sSeq (sSetI (fV 0) (fC (.int 1)) (fOp2 dAdd (fIx (fV 0) (fC (.int 1))) (fC (.int 1)))) (sSeq (sIf (tCmp dGe (fV 3) (fOp2 dPow (fC (.int 10)) (fC (.int 18)))) (sSeq (sSetI (fV 0) (fC (.int 2)) (fOp2 dDiv (fV 3) (fV 1))) (sRet (fOp2 dMod (fBi dInt (fCons (fV 3) fNil)) (fV 1)))) sNext) (sSetI (fV 0) (fC (.int 3)) (fV 3))))) sNext) (sSeq (sSetI (fV 0) (fC (.int 4)) (fOp2 dAdd (fIx (fV 0) (fC (.int 4))) (fC (.int 1)))) (sSeq (sSet 4 (fOp2 dMod (fBi dInt (fCons (fOp2 dAdd (fOp2 dAdd (fOp2 dMul (fIx (fV 0) (fC (.int 3))) (fC (.int 48271))) (fOp2 dMul (fIx (fV 0) (fC (.int 4))) (fC (.int 69621)))) (fC (.int 7919))) fNil)) (fC (.int 2147483647)))) (sSeq (sSet 4 (fOp2 dMod (fBi dInt (fCons (fOp2 dAdd (fOp2 dMul (fV 4) (fV 4)) (fOp2 dMul (fIx (fV 0) (fC (.int 4))) (fC (.int 40692)))) fNil)) (fC (.int 2147483399)))) (sRet (fOp2 dMod (fBi dInt (fCons (fV 4) fNil)) (fV 1))))))))
noncomputable def S__law_draw : DFn := dfn 5 b__law_draw
theorem d__law_draw {P : Program} {w : World} {K : PySem.W.Frag} {mg : Str → Option Value} {base : Heap} {F : Fx} (hF : F.K = K) (hx : F.xo = none) (M : Mod K mg F) {f : Addr} (cdv : Value) (A : Around) (outer : List PySem.Env) (s : Shared) (H : Hp) (E : XK) (hr : Room 0 (A.deeper (envOfC "_law_draw" (defScope s__law_draw) s.heap.objs.size f cdv))) :
  SSs (cxOf (L2.CX P w) P w K mg base n__law_draw "_law_draw" (defScope s__law_draw) f cdv A outer s H E) F (fun c d _ H' => E c d H') (defBody s__law_draw) b__law_draw := by
  have C := ctx_of (P := P) (w := w) (mg := mg) (base := base) (N := n__law_draw) (qual := "_law_draw") (sc := defScope s__law_draw) (f := f) (cdv := cdv) (A := A) (outer := outer) (s := s) (H := H) (E := E) (F := F) (L := 0) hF (by decide +kernel) hr
  exact (sss_cons (ss_if (st_cmp oc_gt (se_ix C.k C.u (se_v 0) se_int) se_int) (sss_cons (ss_set 2 C.n (se_op2 cm_mod od_mod (se_bty cd_int cm_int M.g_int (sa_cons (se_ix C.k C.u (se_v 0) se_int) sa_nil)) (se_v 1)))
  (sss_cons (ss_setI C.u (se_v 0) se_int (se_op2 cm_div od_div (se_ix C.k C.u (se_v 0) se_int) (se_v 1)))
  (sss_one (ss_ret (se_v 2))))) sss_nil)
  (sss_cons (ss_if ((sw_and (st_cmp (oc_eq C.k C.u) (se_op2 cm_mod od_mod (se_bty cd_int cm_int M.g_int (sa_cons (se_ix C.k C.u (se_v 0) se_int) sa_nil)) se_int) se_int) (sw_and1 (st_cmp oc_lt (se_ix C.k C.u (se_v 0) se_int) (se_bi (cd_len C.k) cm_len M.g_len (sa_cons (se_ix C.k C.u (se_v 0) se_int) sa_nil)))))).st (sss_cons (ss_set 3 C.n (se_bi cd_abs cm_abs M.g_abs (sa_cons (se_ix C.k C.u (se_ix C.k C.u (se_v 0) se_int) (se_ix C.k C.u (se_v 0) se_int)) sa_nil)))
  (sss_cons (ss_setI C.u (se_v 0) se_int (se_op2 cm_add (od_add C.k) (se_ix C.k C.u (se_v 0) se_int) se_int))
  (sss_cons (ss_if (st_cmp oc_ge (se_v 3) (se_op2 cm_pow od_pow se_int se_int)) (sss_cons (ss_setI C.u (se_v 0) se_int (se_op2 cm_div od_div (se_v 3) (se_v 1)))
  (sss_one (ss_ret (se_op2 cm_mod od_mod (se_bty cd_int cm_int M.g_int (sa_cons (se_v 3) sa_nil)) (se_v 1))))) sss_nil)
  (sss_one (ss_setI C.u (se_v 0) se_int (se_v 3)))))) sss_nil)
  (sss_cons (ss_setI C.u (se_v 0) se_int (se_op2 cm_add (od_add C.k) (se_ix C.k C.u (se_v 0) se_int) se_int))
  (sss_cons (ss_set 4 C.n (se_op2 cm_mod od_mod (se_bty cd_int cm_int M.g_int (sa_cons (se_op2 cm_add (od_add C.k) (se_op2 cm_add (od_add C.k) (se_op2 cm_mul od_mul (se_ix C.k C.u (se_v 0) se_int) se_int) (se_op2 cm_mul od_mul (se_ix C.k C.u (se_v 0) se_int) se_int)) se_int) sa_nil)) se_int))
  (sss_cons (ss_set 4 C.n (se_op2 cm_mod od_mod (se_bty cd_int cm_int M.g_int (sa_cons (se_op2 cm_add (od_add C.k) (se_op2 cm_mul od_mul (se_v 4) (se_v 4)) (se_op2 cm_mul od_mul (se_ix C.k C.u (se_v 0) se_int) se_int)) sa_nil)) se_int))
  (sss_one (ss_ret (se_op2 cm_mod od_mod (se_bty cd_int cm_int M.g_int (sa_cons (se_v 4) sa_nil)) (se_v 1)))))))))
def s__law_then : Stmt := bd.getD 27 (.Pass ⟨0, 0, 0, 0⟩)
def n__law_then : List Str := ["one", "other", "place"]
theorem sc__law_then : FnScope n__law_then ["one", "other"] (defScope s__law_then) := ⟨rfl, rfl, rfl, by decide +kernel, rfl, by decide +kernel, by decide +kernel⟩
noncomputable def b__law_then : SemS := (sRet (fTree (fLc (iVal (fV 1)) (aNm 2) tYes (fIx (fV 0) (fV 2)) [2])))
noncomputable def S__law_then : DFn := dfn 3 b__law_then
theorem d__law_then {P : Program} {w : World} {K : PySem.W.Frag} {mg : Str → Option Value} {base : Heap} {F : Fx} (hF : F.K = K) (hx : F.xo = none) (M : Mod K mg F) {f : Addr} (cdv : Value) (A : Around) (outer : List PySem.Env) (s : Shared) (H : Hp) (E : XK) (hr : Room 0 (A.deeper (envOfC "_law_then" (defScope s__law_then) s.heap.objs.size f cdv))) :
  SSs (cxOf (L2.CX P w) P w K mg base n__law_then "_law_then" (defScope s__law_then) f cdv A outer s H E) F (fun c d _ H' => E c d H') (defBody s__law_then) b__law_then := by
  have C := ctx_of (P := P) (w := w) (mg := mg) (base := base) (N := n__law_then) (qual := "_law_then") (sc := defScope s__law_then) (f := f) (cdv := cdv) (A := A) (outer := outer) (s := s) (H := H) (E := E) (F := F) (L := 0) hF (by decide +kernel) hr
  exact (sss_one (ss_ret (se_tree (sf_lc C.n C.c (si_val C.k (se_v 1)) (own := [("place", 2)]) (L2.blkOk_by (by kernel_rfl)) (fun _ _ _ _ _ => C.bG fun C => (sw_nm 2 C.n)) (fun _ _ _ _ _ => C.bT fun C => spt_nil) (fun _ _ _ _ _ => C.bE fun C => (se_ix C.k C.u (se_v 0) (se_v 2)))))))
def s__law_all : Stmt := bd.getD 28 (.Pass ⟨0, 0, 0, 0⟩)
def n__law_all : List Str := ["many", "found", "k", "longer", "row", "at"]
theorem sc__law_all : FnScope n__law_all ["many"] (defScope s__law_all) := ⟨rfl, rfl, rfl, by decide +kernel, rfl, by decide +kernel, by decide +kernel⟩
noncomputable def b__law_all : SemS := (sSeq (sSet 1 (fTree (fItems (fCons (fTree (fItems fNil)) fNil)))) (sSeq (sFor (iRg1 (fV 0)) (aNm 2) (sSeq (sSet 3 (fBox (fItems fNil))) (sSeq (sFor (iVal (fV 1)) (aNm 4) (sDrop (fMtT "list" dExtend (fV 3) (fCons (fTree (fLc (iRg1 (fOp2 dAdd (fBi dLen (fCons (fV 4) fNil)) (fC (.int 1)))) (aNm 5) tYes (fTree (fCat (fTree (fCat (fTree (fSlL (fV 4) oNone (oSome (fV 5)))) (fTree (fItems (fCons (fV 2) fNil))))) (fTree (fSlL (fV 4) (oSome (fV 5)) oNone)))) [5])) fNil)))) (sSet 1 (fFz 3))))) (sRet (fTree (fBl dSortD (fCons (fV 1) fNil))))))
noncomputable def S__law_all : DFn := dfn 6 b__law_all
theorem d__law_all {P : Program} {w : World} {K : PySem.W.Frag} {mg : Str → Option Value} {base : Heap} {F : Fx} (hF : F.K = K) (hx : F.xo = none) (M : Mod K mg F) {f : Addr} (cdv : Value) (A : Around) (outer : List PySem.Env) (s : Shared) (H : Hp) (E : XK) (hr : Room 0 (A.deeper (envOfC "_law_all" (defScope s__law_all) s.heap.objs.size f cdv))) :
  SSs (cxOf (L2.CX P w) P w K mg base n__law_all "_law_all" (defScope s__law_all) f cdv A outer s H E) F (fun c d _ H' => E c d H') (defBody s__law_all) b__law_all := by
  have C := ctx_of (P := P) (w := w) (mg := mg) (base := base) (N := n__law_all) (qual := "_law_all") (sc := defScope s__law_all) (f := f) (cdv := cdv) (A := A) (outer := outer) (s := s) (H := H) (E := E) (F := F) (L := 0) hF (by decide +kernel) hr
  exact (sss_cons (ss_set 1 C.n (se_tree (sf_lst (sa_cons (se_tree (sf_lst sa_nil)) sa_nil))))
  (sss_cons (ss_for C.p C.c (si_rg1 (se_v 0) M.g_range) (sg_nm 2 C.n) (sss_cons (ss_set 3 C.n (se_box (sf_lst sa_nil)))
  (sss_cons (ss_for C.p C.c (si_val C.k (se_v 1)) (sg_nm 4 C.n) (sss_one (ss_drop (se_mt C.k (by decide) PySem.F.plainAttrs_list PySem.F.slot_list_extend PySem.F.type_list_extend md_extend cm_extend (se_v 3) (sa_cons (se_tree (sf_lc C.n C.c (si_rg1 (se_op2 cm_add (od_add C.k) (se_bi (cd_len C.k) cm_len M.g_len (sa_cons (se_v 4) sa_nil)) se_int) M.g_range) (own := [("at", 5)]) (L2.blkOk_by (by kernel_rfl)) (fun _ _ _ _ _ => C.bG fun C => (sw_nm 5 C.n)) (fun _ _ _ _ _ => C.bT fun C => spt_nil) (fun _ _ _ _ _ => C.bE fun C => (se_tree (sf_cat (se_tree (sf_cat (se_tree (sf_sl C.k (se_v 4) so_none (so_some (se_v 5)))) (se_tree (sf_lst (sa_cons (se_v 2) sa_nil))))) (se_tree (sf_sl C.k (se_v 4) (so_some (se_v 5)) so_none))))))) sa_nil)))))
  (sss_one (ss_set 1 C.n (se_fz 3))))))
  (sss_one (ss_ret (se_tree (sf_bi (cf_sortD C.k C.u) cm_sortD M.g_sorted (sa_cons (se_v 1) sa_nil)))))))
def s_checked_number : Stmt := bd.getD 8 (.Pass ⟨0, 0, 0, 0⟩)
def n_checked_number : List Str := ["value", "least", "most"]
theorem sc_checked_number : FnScope n_checked_number ["value", "least", "most"] (defScope s_checked_number) := ⟨rfl, rfl, rfl, by decide +kernel, rfl, by decide +kernel, by decide +kernel⟩
noncomputable def b_checked_number : SemS := (sSeq (sIf (tNot (fTru (fCall S_is_number 3 [] (fCons (fV 0) (fCons (fV 1) (fCons (fV 2) fNil)))))) (sRaise "InvalidNumber" (fCons (fOp2 dAdd (fOp2 dAdd (fOp2 dAdd (fC (.str "no number from ")) (fBi dStr (fCons (fV 1) fNil))) (fC (.str " to "))) (fBi dStr (fCons (fV 2) fNil))) fNil)) sNext) (sRet (fV 0)))
noncomputable def S_checked_number : DFn := dfn 3 b_checked_number
theorem d_checked_number {P : Program} {w : World} {K : PySem.W.Frag} {mg : Str → Option Value} {base : Heap} {F : Fx} (hF : F.K = K) (hx : F.xo = none) (M : Mod K mg F) (c_is_number_3 : Cal P w K mg base F 1 "is_number" 3 [] S_is_number) {f : Addr} (cdv : Value) (A : Around) (outer : List PySem.Env) (s : Shared) (H : Hp) (E : XK) (hr : Room 1 (A.deeper (envOfC "checked_number" (defScope s_checked_number) s.heap.objs.size f cdv))) :
  SSs (cxOf (L2.CX P w) P w K mg base n_checked_number "checked_number" (defScope s_checked_number) f cdv A outer s H E) F (fun c d _ H' => E c d H') (defBody s_checked_number) b_checked_number := by
  have C := ctx_of (P := P) (w := w) (mg := mg) (base := base) (N := n_checked_number) (qual := "checked_number") (sc := defScope s_checked_number) (f := f) (cdv := cdv) (A := A) (outer := outer) (s := s) (H := H) (E := E) (F := F) (L := 1) hF (by decide +kernel) hr
  exact (sss_cons (ss_if (st_not (st_tru C.k (se_call c_is_number_3 (C.r.mono (by decide)) C.t (sa_cons (se_v 0) (sa_cons (se_v 1) (sa_cons (se_v 2) sa_nil)))))) (sss_one (ss_raise M.x_InvalidNumber C.c C.t (sa_cons (se_op2 cm_add (od_add C.k) (se_op2 cm_add (od_add C.k) (se_op2 cm_add (od_add C.k) se_str (se_bty cd_str cm_str M.g_str (sa_cons (se_v 1) sa_nil))) se_str) (se_bty cd_str cm_str M.g_str (sa_cons (se_v 2) sa_nil))) sa_nil))) sss_nil)
  (sss_one (ss_ret (se_v 0))))
def s_checked_order : Stmt := bd.getD 11 (.Pass ⟨0, 0, 0, 0⟩)
def n_checked_order : List Str := ["order", "place"]
theorem sc_checked_order : FnScope n_checked_order ["order"] (defScope s_checked_order) := ⟨rfl, rfl, rfl, by decide +kernel, rfl, by decide +kernel, by decide +kernel⟩
noncomputable def b_checked_order : SemS := (sSeq (sIf (tCmp dGt (fBi dLen (fCons (fV 0) fNil)) (fC (d_MOST))) (sRaise "TooMany" (fCons (fC (.str "cards")) fNil)) sNext) (sSeq (sFor (iRg1 (fBi dLen (fCons (fV 0) fNil))) (aNm 1) (sIf (tOr (tNot (fTru (fCall S_is_number 3 [] (fCons (fIx (fV 0) (fV 1)) (fCons (fC (.int 0)) (fCons (fOp2 dSub (fBi dLen (fCons (fV 0) fNil)) (fC (.int 1))) fNil)))))) (tCmp dIn (fIx (fV 0) (fV 1)) (fTree (fSlL (fV 0) oNone (oSome (fV 1)))))) (sRaise "InvalidPaper" (fCons (fC (.str "no order")) fNil)) sNext)) (sRet (fBox (fBl dList (fCons (fV 0) fNil))))))
noncomputable def S_checked_order : DFn := dfk 2 b_checked_order
theorem d_checked_order {P : Program} {w : World} {K : PySem.W.Frag} {mg : Str → Option Value} {base : Heap} {F : Fx} (hF : F.K = K) (hx : F.xo = none) (M : Mod K mg F) (c_is_number_3 : Cal P w K mg base F 1 "is_number" 3 [] S_is_number) {f : Addr} (cdv : Value) (A : Around) (outer : List PySem.Env) (s : Shared) (H : Hp) (E : XK) (hr : Room 1 (A.deeper (envOfC "checked_order" (defScope s_checked_order) s.heap.objs.size f cdv))) :
  SSs (cxOf (L2.CX P w) P w K mg base n_checked_order "checked_order" (defScope s_checked_order) f cdv A outer s H E) F (fun c d _ H' => E c d H') (defBody s_checked_order) b_checked_order := by
  have C := ctx_of (P := P) (w := w) (mg := mg) (base := base) (N := n_checked_order) (qual := "checked_order") (sc := defScope s_checked_order) (f := f) (cdv := cdv) (A := A) (outer := outer) (s := s) (H := H) (E := E) (F := F) (L := 1) hF (by decide +kernel) hr
  exact (sss_cons (ss_if (st_cmp oc_gt (se_bi (cd_len C.k) cm_len M.g_len (sa_cons (se_v 0) sa_nil)) (se_gl M.c_MOST)) (sss_one (ss_raise M.x_TooMany C.c C.t (sa_cons se_str sa_nil))) sss_nil)
  (sss_cons (ss_for C.p C.c (si_rg1 (se_bi (cd_len C.k) cm_len M.g_len (sa_cons (se_v 0) sa_nil)) M.g_range) (sg_nm 1 C.n) (sss_one (ss_if ((sw_or (st_not (st_tru C.k (se_call c_is_number_3 (C.r.mono (by decide)) C.t (sa_cons (se_ix C.k C.u (se_v 0) (se_v 1)) (sa_cons se_int (sa_cons (se_op2 cm_sub od_sub (se_bi (cd_len C.k) cm_len M.g_len (sa_cons (se_v 0) sa_nil)) se_int) sa_nil)))))) (sw_or1 (st_cmp (oc_in C.k C.u) (se_ix C.k C.u (se_v 0) (se_v 1)) (se_tree (sf_sl C.k (se_v 0) so_none (so_some (se_v 1)))))))).st (sss_one (ss_raise M.x_InvalidPaper C.c C.t (sa_cons se_str sa_nil))) sss_nil)))
  (sss_one (ss_ret (se_box (sf_bty (cf_list C.k) cm_list M.g_list (sa_cons (se_v 0) sa_nil)))))))
def s__law_pick : Stmt := bd.getD 24 (.Pass ⟨0, 0, 0, 0⟩)
def n__law_pick : List Str := ["pool", "rows"]
theorem sc__law_pick : FnScope n__law_pick ["pool", "rows"] (defScope s__law_pick) := ⟨rfl, rfl, rfl, by decide +kernel, rfl, by decide +kernel, by decide +kernel⟩
noncomputable def b__law_pick : SemS := (sRet (fIx (fV 1) (fCall S__law_draw 2 [] (fCons (fV 0) (fCons (fBi dLen (fCons (fV 1) fNil)) fNil)))))
noncomputable def S__law_pick : DFn := dfn 2 b__law_pick
theorem d__law_pick {P : Program} {w : World} {K : PySem.W.Frag} {mg : Str → Option Value} {base : Heap} {F : Fx} (hF : F.K = K) (hx : F.xo = none) (M : Mod K mg F) (c__law_draw : Cal P w K mg base F 1 "_law_draw" 2 [] S__law_draw) {f : Addr} (cdv : Value) (A : Around) (outer : List PySem.Env) (s : Shared) (H : Hp) (E : XK) (hr : Room 1 (A.deeper (envOfC "_law_pick" (defScope s__law_pick) s.heap.objs.size f cdv))) :
  SSs (cxOf (L2.CX P w) P w K mg base n__law_pick "_law_pick" (defScope s__law_pick) f cdv A outer s H E) F (fun c d _ H' => E c d H') (defBody s__law_pick) b__law_pick := by
  have C := ctx_of (P := P) (w := w) (mg := mg) (base := base) (N := n__law_pick) (qual := "_law_pick") (sc := defScope s__law_pick) (f := f) (cdv := cdv) (A := A) (outer := outer) (s := s) (H := H) (E := E) (F := F) (L := 1) hF (by decide +kernel) hr
  exact (sss_one (ss_ret (se_ix C.k C.u (se_v 1) (se_call c__law_draw (C.r.mono (by decide)) C.t (sa_cons (se_v 0) (sa_cons (se_bi (cd_len C.k) cm_len M.g_len (sa_cons (se_v 1) sa_nil)) sa_nil))))))
def s__law_order : Stmt := bd.getD 25 (.Pass ⟨0, 0, 0, 0⟩)
def n__law_order : List Str := ["pool", "many", "left", "found", "k"]
theorem sc__law_order : FnScope n__law_order ["pool", "many"] (defScope s__law_order) := ⟨rfl, rfl, rfl, by decide +kernel, rfl, by decide +kernel, by decide +kernel⟩
noncomputable def b__law_order : SemS := (sSeq (sSet 2 (fBox (fRgL1 (fV 1)))) (sSeq (sSet 3 (fBox (fItems fNil))) (sSeq (sFor (iRg1 (fV 1)) (aNm 4) (sDrop (fMtT "list" dAppend (fV 3) (fCons (fMtT "list" dPopAt (fV 2) (fCons (fCall S__law_draw 2 [] (fCons (fV 0) (fCons (fBi dLen (fCons (fV 2) fNil)) fNil))) fNil)) fNil)))) (sRet (fFz 3)))))
noncomputable def S__law_order : DFn := dfn 5 b__law_order
theorem d__law_order {P : Program} {w : World} {K : PySem.W.Frag} {mg : Str → Option Value} {base : Heap} {F : Fx} (hF : F.K = K) (hx : F.xo = none) (M : Mod K mg F) (c__law_draw : Cal P w K mg base F 1 "_law_draw" 2 [] S__law_draw) {f : Addr} (cdv : Value) (A : Around) (outer : List PySem.Env) (s : Shared) (H : Hp) (E : XK) (hr : Room 1 (A.deeper (envOfC "_law_order" (defScope s__law_order) s.heap.objs.size f cdv))) :
  SSs (cxOf (L2.CX P w) P w K mg base n__law_order "_law_order" (defScope s__law_order) f cdv A outer s H E) F (fun c d _ H' => E c d H') (defBody s__law_order) b__law_order := by
  have C := ctx_of (P := P) (w := w) (mg := mg) (base := base) (N := n__law_order) (qual := "_law_order") (sc := defScope s__law_order) (f := f) (cdv := cdv) (A := A) (outer := outer) (s := s) (H := H) (E := E) (F := F) (L := 1) hF (by decide +kernel) hr
  exact (sss_cons (ss_set 2 C.n (se_box (sf_rgL1 C.c M.g_list M.g_range (se_v 1))))
  (sss_cons (ss_set 3 C.n (se_box (sf_lst sa_nil)))
  (sss_cons (ss_for C.p C.c (si_rg1 (se_v 1) M.g_range) (sg_nm 4 C.n) (sss_one (ss_drop (se_mt C.k (by decide) PySem.F.plainAttrs_list PySem.F.slot_list_append PySem.F.type_list_append md_append cm_append (se_v 3) (sa_cons (se_mt C.k (by decide) PySem.F.plainAttrs_list PySem.F.slot_list_pop PySem.F.type_list_pop md_popAt cm_popAt (se_v 2) (sa_cons (se_call c__law_draw (C.r.mono (by decide)) C.t (sa_cons (se_v 0) (sa_cons (se_bi (cd_len C.k) cm_len M.g_len (sa_cons (se_v 2) sa_nil)) sa_nil))) sa_nil)) sa_nil)))))
  (sss_one (ss_ret (se_fz 3))))))
def s_shuffled : Stmt := bd.getD 12 (.Pass ⟨0, 0, 0, 0⟩)
def n_shuffled : List Str := ["cards", "order", "places", "place"]
theorem sc_shuffled : FnScope n_shuffled ["cards", "order"] (defScope s_shuffled) := ⟨rfl, rfl, rfl, by decide +kernel, rfl, by decide +kernel, by decide +kernel⟩
noncomputable def b_shuffled : SemS := (sSeq (sSet 2 (fCall S_checked_order 1 [] (fCons (fV 1) fNil))) (sSeq (sIf (tCmp dNe (fBi dLen (fCons (fV 0) fNil)) (fBi dLen (fCons (fV 2) fNil))) (sRaise "InvalidPaper" (fCons (fC (.str "other cards")) fNil)) sNext) (sRet (fTree (fLc (iVal (fV 2)) (aNm 3) tYes (fIx (fV 0) (fV 3)) [3])))))
noncomputable def S_shuffled : DFn := dfn 4 b_shuffled
theorem d_shuffled {P : Program} {w : World} {K : PySem.W.Frag} {mg : Str → Option Value} {base : Heap} {F : Fx} (hF : F.K = K) (hx : F.xo = none) (M : Mod K mg F) (c_checked_order : Cal P w K mg base F 2 "checked_order" 1 [] S_checked_order) {f : Addr} (cdv : Value) (A : Around) (outer : List PySem.Env) (s : Shared) (H : Hp) (E : XK) (hr : Room 2 (A.deeper (envOfC "shuffled" (defScope s_shuffled) s.heap.objs.size f cdv))) :
  SSs (cxOf (L2.CX P w) P w K mg base n_shuffled "shuffled" (defScope s_shuffled) f cdv A outer s H E) F (fun c d _ H' => E c d H') (defBody s_shuffled) b_shuffled := by
  have C := ctx_of (P := P) (w := w) (mg := mg) (base := base) (N := n_shuffled) (qual := "shuffled") (sc := defScope s_shuffled) (f := f) (cdv := cdv) (A := A) (outer := outer) (s := s) (H := H) (E := E) (F := F) (L := 2) hF (by decide +kernel) hr
  exact (sss_cons (ss_set 2 C.n (se_call c_checked_order (C.r.mono (by decide)) C.t (sa_cons (se_v 1) sa_nil)))
  (sss_cons (ss_if (st_cmp (oc_ne C.k C.u) (se_bi (cd_len C.k) cm_len M.g_len (sa_cons (se_v 0) sa_nil)) (se_bi (cd_len C.k) cm_len M.g_len (sa_cons (se_v 2) sa_nil))) (sss_one (ss_raise M.x_InvalidPaper C.c C.t (sa_cons se_str sa_nil))) sss_nil)
  (sss_one (ss_ret (se_tree (sf_lc C.n C.c (si_val C.k (se_v 2)) (own := [("place", 3)]) (L2.blkOk_by (by kernel_rfl)) (fun _ _ _ _ _ => C.bG fun C => (sw_nm 3 C.n)) (fun _ _ _ _ _ => C.bT fun C => spt_nil) (fun _ _ _ _ _ => C.bE fun C => (se_ix C.k C.u (se_v 0) (se_v 3)))))))))
def s_rings : Stmt := bd.getD 13 (.Pass ⟨0, 0, 0, 0⟩)
def n_rings : List Str := ["order", "places", "seen", "found", "start", "ring"]
theorem sc_rings : FnScope n_rings ["order"] (defScope s_rings) := ⟨rfl, rfl, rfl, by decide +kernel, rfl, by decide +kernel, by decide +kernel⟩
noncomputable def b_rings : SemS := (sSeq (sSet 1 (fCall S_checked_order 1 [] (fCons (fV 0) fNil))) (sSeq (sSet 2 (fBox (fItems fNil))) (sSeq (sSet 3 (fBox (fItems fNil))) (sSeq (sFor (iRg1 (fBi dLen (fCons (fV 1) fNil))) (aNm 4) (sIf (tCmp dNotIn (fV 4) (fV 2)) (sSeq (sSet 5 (fBox (fItems (fCons (fV 4) fNil)))) (sSeq (sWhile (tCmp dNe (fIx (fV 1) (fIx (fV 5) (fOp1 dNeg (fC (.int 1))))) (fV 4)) (sDrop (fMtT "list" dAppend (fV 5) (fCons (fIx (fV 1) (fIx (fV 5) (fOp1 dNeg (fC (.int 1))))) fNil)))) (sSeq (sDrop (fMtT "list" dExtend (fV 2) (fCons (fFz 5) fNil))) (sDrop (fMtT "list" dAppend (fV 3) (fCons (fFz 5) fNil)))))) sNext)) (sRet (fFz 3))))))
noncomputable def S_rings : DFn := dfn 6 b_rings
theorem d_rings {P : Program} {w : World} {K : PySem.W.Frag} {mg : Str → Option Value} {base : Heap} {F : Fx} (hF : F.K = K) (hx : F.xo = none) (M : Mod K mg F) (c_checked_order : Cal P w K mg base F 2 "checked_order" 1 [] S_checked_order) {f : Addr} (cdv : Value) (A : Around) (outer : List PySem.Env) (s : Shared) (H : Hp) (E : XK) (hr : Room 2 (A.deeper (envOfC "rings" (defScope s_rings) s.heap.objs.size f cdv))) :
  SSs (cxOf (L2.CX P w) P w K mg base n_rings "rings" (defScope s_rings) f cdv A outer s H E) F (fun c d _ H' => E c d H') (defBody s_rings) b_rings := by
  have C := ctx_of (P := P) (w := w) (mg := mg) (base := base) (N := n_rings) (qual := "rings") (sc := defScope s_rings) (f := f) (cdv := cdv) (A := A) (outer := outer) (s := s) (H := H) (E := E) (F := F) (L := 2) hF (by decide +kernel) hr
  exact (sss_cons (ss_set 1 C.n (se_call c_checked_order (C.r.mono (by decide)) C.t (sa_cons (se_v 0) sa_nil)))
  (sss_cons (ss_set 2 C.n (se_box (sf_lst sa_nil)))
  (sss_cons (ss_set 3 C.n (se_box (sf_lst sa_nil)))
  (sss_cons (ss_for C.p C.c (si_rg1 (se_bi (cd_len C.k) cm_len M.g_len (sa_cons (se_v 1) sa_nil)) M.g_range) (sg_nm 4 C.n) (sss_one (ss_if (st_cmp (oc_notIn C.k C.u) (se_v 4) (se_v 2)) (sss_cons (ss_set 5 C.n (se_box (sf_lst (sa_cons (se_v 4) sa_nil))))
  (sss_cons (ss_while C.p (st_cmp (oc_ne C.k C.u) (se_ix C.k C.u (se_v 1) (se_ix C.k C.u (se_v 5) (se_op1 cm_neg od_neg se_int))) (se_v 4)) (sss_one (ss_drop (se_mt C.k (by decide) PySem.F.plainAttrs_list PySem.F.slot_list_append PySem.F.type_list_append md_append cm_append (se_v 5) (sa_cons (se_ix C.k C.u (se_v 1) (se_ix C.k C.u (se_v 5) (se_op1 cm_neg od_neg se_int))) sa_nil)))))
  (sss_cons (ss_drop (se_mt C.k (by decide) PySem.F.plainAttrs_list PySem.F.slot_list_extend PySem.F.type_list_extend md_extend cm_extend (se_v 2) (sa_cons (se_fz 5) sa_nil)))
  (sss_one (ss_drop (se_mt C.k (by decide) PySem.F.plainAttrs_list PySem.F.slot_list_append PySem.F.type_list_append md_append cm_append (se_v 3) (sa_cons (se_fz 5) sa_nil))))))) sss_nil)))
  (sss_one (ss_ret (se_fz 3)))))))
def s_place_of : Stmt := bd.getD 16 (.Pass ⟨0, 0, 0, 0⟩)
def n_place_of : List Str := ["order", "places", "found", "at", "less", "one"]
theorem sc_place_of : FnScope n_place_of ["order"] (defScope s_place_of) := ⟨rfl, rfl, rfl, by decide +kernel, rfl, by decide +kernel, by decide +kernel⟩
noncomputable def b_place_of : SemS := (sSeq (sSet 1 (fCall S_checked_order 1 [] (fCons (fV 0) fNil))) (sSeq (sIf (tCmp dGt (fBi dLen (fCons (fV 1) fNil)) (fC (.int 20))) (sRaise "InvalidPaper" (fCons (fC (.str "too many")) fNil)) sNext) (sSeq (sSet 2 (fC (.int 0))) (sSeq (sFor (iRg1 (fBi dLen (fCons (fV 1) fNil))) (aNm 3) (sSeq (sSet 4 (fBi dLen (fCons (fTree (fLc (iVal (fTree (fSlL (fV 1) (oSome (fOp2 dAdd (fV 3) (fC (.int 1)))) oNone))) (aNm 5) (tCmp dLt (fV 5) (fIx (fV 1) (fV 3))) (fV 5) [5])) fNil))) (sSet 2 (fOp2 dAdd (fOp2 dMul (fV 2) (fOp2 dSub (fBi dLen (fCons (fV 1) fNil)) (fV 3))) (fV 4))))) (sRet (fV 2))))))
noncomputable def S_place_of : DFn := dfn 6 b_place_of
theorem d_place_of {P : Program} {w : World} {K : PySem.W.Frag} {mg : Str → Option Value} {base : Heap} {F : Fx} (hF : F.K = K) (hx : F.xo = none) (M : Mod K mg F) (c_checked_order : Cal P w K mg base F 2 "checked_order" 1 [] S_checked_order) {f : Addr} (cdv : Value) (A : Around) (outer : List PySem.Env) (s : Shared) (H : Hp) (E : XK) (hr : Room 2 (A.deeper (envOfC "place_of" (defScope s_place_of) s.heap.objs.size f cdv))) :
  SSs (cxOf (L2.CX P w) P w K mg base n_place_of "place_of" (defScope s_place_of) f cdv A outer s H E) F (fun c d _ H' => E c d H') (defBody s_place_of) b_place_of := by
  have C := ctx_of (P := P) (w := w) (mg := mg) (base := base) (N := n_place_of) (qual := "place_of") (sc := defScope s_place_of) (f := f) (cdv := cdv) (A := A) (outer := outer) (s := s) (H := H) (E := E) (F := F) (L := 2) hF (by decide +kernel) hr
  exact (sss_cons (ss_set 1 C.n (se_call c_checked_order (C.r.mono (by decide)) C.t (sa_cons (se_v 0) sa_nil)))
  (sss_cons (ss_if (st_cmp oc_gt (se_bi (cd_len C.k) cm_len M.g_len (sa_cons (se_v 1) sa_nil)) se_int) (sss_one (ss_raise M.x_InvalidPaper C.c C.t (sa_cons se_str sa_nil))) sss_nil)
  (sss_cons (ss_set 2 C.n se_int)
  (sss_cons (ss_for C.p C.c (si_rg1 (se_bi (cd_len C.k) cm_len M.g_len (sa_cons (se_v 1) sa_nil)) M.g_range) (sg_nm 3 C.n) (sss_cons (ss_set 4 C.n (se_bi (cd_len C.k) cm_len M.g_len (sa_cons (se_tree (sf_lc C.n C.c (si_val C.k (se_tree (sf_sl C.k (se_v 1) (so_some (se_op2 cm_add (od_add C.k) (se_v 3) se_int)) so_none))) (own := [("one", 5)]) (L2.blkOk_by (by kernel_rfl)) (fun _ _ _ _ _ => C.bG fun C => (sw_nm 5 C.n)) (fun _ _ _ _ _ => C.bT fun C => (spt_one (st_cmp oc_lt (se_v 5) (se_ix C.k C.u (se_v 1) (se_v 3))))) (fun _ _ _ _ _ => C.bE fun C => (se_v 5)))) sa_nil)))
  (sss_one (ss_set 2 C.n (se_op2 cm_add (od_add C.k) (se_op2 cm_mul od_mul (se_v 2) (se_op2 cm_sub od_sub (se_bi (cd_len C.k) cm_len M.g_len (sa_cons (se_v 1) sa_nil)) (se_v 3))) (se_v 4))))))
  (sss_one (ss_ret (se_v 2)))))))
def s_order_at : Stmt := bd.getD 17 (.Pass ⟨0, 0, 0, 0⟩)
def n_order_at : List Str := ["many", "place", "total", "number", "left", "found", "at"]
theorem sc_order_at : FnScope n_order_at ["many", "place"] (defScope s_order_at) := ⟨rfl, rfl, rfl, by decide +kernel, rfl, by decide +kernel, by decide +kernel⟩
noncomputable def b_order_at : SemS := (sSeq (sDrop (fCall S_checked_number 3 [] (fCons (fV 0) (fCons (fC (.int 0)) (fCons (fC (.int 20)) fNil))))) (sSeq (sSet 2 (fC (.int 1))) (sSeq (sFor (iRg2 (fC (.int 1)) (fOp2 dAdd (fV 0) (fC (.int 1)))) (aNm 3) (sSet 2 (fOp2 dMul (fV 2) (fV 3)))) (sSeq (sIf (tNot (fTru (fCall S_is_number 3 [] (fCons (fV 1) (fCons (fC (.int 0)) (fCons (fOp2 dSub (fV 2) (fC (.int 1))) fNil)))))) (sRaise "InvalidNumber" (fCons (fC (.str "no place")) fNil)) sNext) (sSeq (sSet 4 (fBox (fRgL1 (fV 0)))) (sSeq (sSet 5 (fBox (fItems fNil))) (sSeq (sFor (iRg1 (fV 0)) (aNm 6) (sSeq (sSet 2 (fOp2 dDiv (fV 2) (fOp2 dSub (fV 0) (fV 6)))) (sSeq (sDrop (fMtT "list" dAppend (fV 5) (fCons (fMtT "list" dPopAt (fV 4) (fCons (fOp2 dDiv (fV 1) (fV 2)) fNil)) fNil))) (sSet 1 (fOp2 dMod (fV 1) (fV 2)))))) (sRet (fFz 5)))))))))
noncomputable def S_order_at : DFn := dfn 7 b_order_at
theorem d_order_at {P : Program} {w : World} {K : PySem.W.Frag} {mg : Str → Option Value} {base : Heap} {F : Fx} (hF : F.K = K) (hx : F.xo = none) (M : Mod K mg F) (c_checked_number_3 : Cal P w K mg base F 2 "checked_number" 3 [] S_checked_number) (c_is_number_3 : Cal P w K mg base F 1 "is_number" 3 [] S_is_number) {f : Addr} (cdv : Value) (A : Around) (outer : List PySem.Env) (s : Shared) (H : Hp) (E : XK) (hr : Room 2 (A.deeper (envOfC "order_at" (defScope s_order_at) s.heap.objs.size f cdv))) :
  SSs (cxOf (L2.CX P w) P w K mg base n_order_at "order_at" (defScope s_order_at) f cdv A outer s H E) F (fun c d _ H' => E c d H') (defBody s_order_at) b_order_at := by
  have C := ctx_of (P := P) (w := w) (mg := mg) (base := base) (N := n_order_at) (qual := "order_at") (sc := defScope s_order_at) (f := f) (cdv := cdv) (A := A) (outer := outer) (s := s) (H := H) (E := E) (F := F) (L := 2) hF (by decide +kernel) hr
  exact (sss_cons (ss_drop (se_call c_checked_number_3 (C.r.mono (by decide)) C.t (sa_cons (se_v 0) (sa_cons se_int (sa_cons se_int sa_nil)))))
  (sss_cons (ss_set 2 C.n se_int)
  (sss_cons (ss_for C.p C.c (si_rg2 se_int (se_op2 cm_add (od_add C.k) (se_v 0) se_int) M.g_range) (sg_nm 3 C.n) (sss_one (ss_set 2 C.n (se_op2 cm_mul od_mul (se_v 2) (se_v 3)))))
  (sss_cons (ss_if (st_not (st_tru C.k (se_call c_is_number_3 (C.r.mono (by decide)) C.t (sa_cons (se_v 1) (sa_cons se_int (sa_cons (se_op2 cm_sub od_sub (se_v 2) se_int) sa_nil)))))) (sss_one (ss_raise M.x_InvalidNumber C.c C.t (sa_cons se_str sa_nil))) sss_nil)
  (sss_cons (ss_set 4 C.n (se_box (sf_rgL1 C.c M.g_list M.g_range (se_v 0))))
  (sss_cons (ss_set 5 C.n (se_box (sf_lst sa_nil)))
  (sss_cons (ss_for C.p C.c (si_rg1 (se_v 0) M.g_range) (sg_nm 6 C.n) (sss_cons (ss_set 2 C.n (se_op2 cm_div od_div (se_v 2) (se_op2 cm_sub od_sub (se_v 0) (se_v 6))))
  (sss_cons (ss_drop (se_mt C.k (by decide) PySem.F.plainAttrs_list PySem.F.slot_list_append PySem.F.type_list_append md_append cm_append (se_v 5) (sa_cons (se_mt C.k (by decide) PySem.F.plainAttrs_list PySem.F.slot_list_pop PySem.F.type_list_pop md_popAt cm_popAt (se_v 4) (sa_cons (se_op2 cm_div od_div (se_v 1) (se_v 2)) sa_nil)) sa_nil)))
  (sss_one (ss_set 1 C.n (se_op2 cm_mod od_mod (se_v 1) (se_v 2)))))))
  (sss_one (ss_ret (se_fz 5))))))))))
def s_next_order : Stmt := bd.getD 18 (.Pass ⟨0, 0, 0, 0⟩)
def n_next_order : List Str := ["order", "places", "rising", "at", "other", "one", "kept"]
theorem sc_next_order : FnScope n_next_order ["order"] (defScope s_next_order) := ⟨rfl, rfl, rfl, by decide +kernel, rfl, by decide +kernel, by decide +kernel⟩
noncomputable def b_next_order : SemS := (sSeq (sSet 1 (fCall S_checked_order 1 [] (fCons (fV 0) fNil))) (sSeq (sSet 2 (fTree (fLc (iRg1 (fOp2 dSub (fBi dLen (fCons (fV 1) fNil)) (fC (.int 1)))) (aNm 3) (tCmp dLt (fIx (fV 1) (fV 3)) (fIx (fV 1) (fOp2 dAdd (fV 3) (fC (.int 1))))) (fV 3) [3]))) (sSeq (sIf (tNot (fTru (fV 2))) (sRet (fC .non)) sNext) (sSeq (sSet 3 (fIx (fV 2) (fOp1 dNeg (fC (.int 1))))) (sSeq (sSet 4 (fIx (fTree (fLc (iRg2 (fOp2 dAdd (fV 3) (fC (.int 1))) (fBi dLen (fCons (fV 1) fNil))) (aNm 5) (tCmp dGt (fIx (fV 1) (fV 5)) (fIx (fV 1) (fV 3))) (fV 5) [5])) (fOp1 dNeg (fC (.int 1))))) (sSeq (sSet 6 (fIx (fV 1) (fV 3))) (sSeq (sSetI (fV 1) (fV 3) (fIx (fV 1) (fV 4))) (sSeq (sSetI (fV 1) (fV 4) (fV 6)) (sRet (fTree (fCat (fTree (fSlL (fV 1) oNone (oSome (fOp2 dAdd (fV 3) (fC (.int 1)))))) (fTree (fRevL (fTree (fSlL (fV 1) (oSome (fOp2 dAdd (fV 3) (fC (.int 1)))) oNone)))))))))))))))
noncomputable def S_next_order : DFn := dfn 7 b_next_order
theorem d_next_order {P : Program} {w : World} {K : PySem.W.Frag} {mg : Str → Option Value} {base : Heap} {F : Fx} (hF : F.K = K) (hx : F.xo = none) (M : Mod K mg F) (c_checked_order : Cal P w K mg base F 2 "checked_order" 1 [] S_checked_order) {f : Addr} (cdv : Value) (A : Around) (outer : List PySem.Env) (s : Shared) (H : Hp) (E : XK) (hr : Room 2 (A.deeper (envOfC "next_order" (defScope s_next_order) s.heap.objs.size f cdv))) :
  SSs (cxOf (L2.CX P w) P w K mg base n_next_order "next_order" (defScope s_next_order) f cdv A outer s H E) F (fun c d _ H' => E c d H') (defBody s_next_order) b_next_order := by
  have C := ctx_of (P := P) (w := w) (mg := mg) (base := base) (N := n_next_order) (qual := "next_order") (sc := defScope s_next_order) (f := f) (cdv := cdv) (A := A) (outer := outer) (s := s) (H := H) (E := E) (F := F) (L := 2) hF (by decide +kernel) hr
  exact (sss_cons (ss_set 1 C.n (se_call c_checked_order (C.r.mono (by decide)) C.t (sa_cons (se_v 0) sa_nil)))
  (sss_cons (ss_setLc 2 false C.n C.c (si_rg1 (se_op2 cm_sub od_sub (se_bi (cd_len C.k) cm_len M.g_len (sa_cons (se_v 1) sa_nil)) se_int) M.g_range) (own := [("at", 3)]) (L2.blkOk_by (by kernel_rfl)) (fun _ _ _ _ _ => C.bG fun C => (sw_nm 3 C.n)) (fun _ _ _ _ _ => C.bT fun C => (spt_one (st_cmp oc_lt (se_ix C.k C.u (se_v 1) (se_v 3)) (se_ix C.k C.u (se_v 1) (se_op2 cm_add (od_add C.k) (se_v 3) se_int))))) (fun _ _ _ _ _ => C.bE fun C => (se_v 3)))
  (sss_cons (ss_if (st_not (st_tru C.k (se_v 2))) (sss_one (ss_ret se_non)) sss_nil)
  (sss_cons (ss_set 3 C.n (se_ix C.k C.u (se_v 2) (se_op1 cm_neg od_neg se_int)))
  (sss_cons (ss_set 4 C.n (se_ix C.k C.u (se_tree (sf_lc C.n C.c (si_rg2 (se_op2 cm_add (od_add C.k) (se_v 3) se_int) (se_bi (cd_len C.k) cm_len M.g_len (sa_cons (se_v 1) sa_nil)) M.g_range) (own := [("one", 5)]) (L2.blkOk_by (by kernel_rfl)) (fun _ _ _ _ _ => C.bG fun C => (sw_nm 5 C.n)) (fun _ _ _ _ _ => C.bT fun C => (spt_one (st_cmp oc_gt (se_ix C.k C.u (se_v 1) (se_v 5)) (se_ix C.k C.u (se_v 1) (se_v 3))))) (fun _ _ _ _ _ => C.bE fun C => (se_v 5)))) (se_op1 cm_neg od_neg se_int)))
  (sss_cons (ss_set 6 C.n (se_ix C.k C.u (se_v 1) (se_v 3)))
  (sss_cons (ss_setI C.u (se_v 1) (se_v 3) (se_ix C.k C.u (se_v 1) (se_v 4)))
  (sss_cons (ss_setI C.u (se_v 1) (se_v 4) (se_v 6))
  (sss_one (ss_ret (se_tree (sf_cat (se_tree (sf_sl C.k (se_v 1) so_none (so_some (se_op2 cm_add (od_add C.k) (se_v 3) se_int)))) (se_tree (sf_revL C.k C.c M.g_list M.g_reversed (se_tree (sf_sl C.k (se_v 1) (so_some (se_op2 cm_add (od_add C.k) (se_v 3) se_int)) so_none))))))))))))))))
def s_riffle : Stmt := bd.getD 19 (.Pass ⟨0, 0, 0, 0⟩)
def n_riffle : List Str := ["many", "half", "found", "place"]
theorem sc_riffle : FnScope n_riffle ["many"] (defScope s_riffle) := ⟨rfl, rfl, rfl, by decide +kernel, rfl, by decide +kernel, by decide +kernel⟩
noncomputable def b_riffle : SemS := (sSeq (sDrop (fCall S_checked_number 3 [] (fCons (fV 0) (fCons (fC (.int 0)) (fCons (fC (d_MOST)) fNil))))) (sSeq (sSet 1 (fOp2 dDiv (fOp2 dAdd (fV 0) (fC (.int 1))) (fC (.int 2)))) (sSeq (sSet 2 (fBox (fItems fNil))) (sSeq (sFor (iRg1 (fV 0)) (aNm 3) (sDrop (fMtT "list" dAppend (fV 2) (fCons (fIf (tCmp dEq (fOp2 dMod (fV 3) (fC (.int 2))) (fC (.int 0))) (fOp2 dDiv (fV 3) (fC (.int 2))) (fOp2 dAdd (fV 1) (fOp2 dDiv (fV 3) (fC (.int 2))))) fNil)))) (sRet (fFz 2))))))
noncomputable def S_riffle : DFn := dfn 4 b_riffle
theorem d_riffle {P : Program} {w : World} {K : PySem.W.Frag} {mg : Str → Option Value} {base : Heap} {F : Fx} (hF : F.K = K) (hx : F.xo = none) (M : Mod K mg F) (c_checked_number_3 : Cal P w K mg base F 2 "checked_number" 3 [] S_checked_number) {f : Addr} (cdv : Value) (A : Around) (outer : List PySem.Env) (s : Shared) (H : Hp) (E : XK) (hr : Room 2 (A.deeper (envOfC "riffle" (defScope s_riffle) s.heap.objs.size f cdv))) :
  SSs (cxOf (L2.CX P w) P w K mg base n_riffle "riffle" (defScope s_riffle) f cdv A outer s H E) F (fun c d _ H' => E c d H') (defBody s_riffle) b_riffle := by
  have C := ctx_of (P := P) (w := w) (mg := mg) (base := base) (N := n_riffle) (qual := "riffle") (sc := defScope s_riffle) (f := f) (cdv := cdv) (A := A) (outer := outer) (s := s) (H := H) (E := E) (F := F) (L := 2) hF (by decide +kernel) hr
  exact (sss_cons (ss_drop (se_call c_checked_number_3 (C.r.mono (by decide)) C.t (sa_cons (se_v 0) (sa_cons se_int (sa_cons (se_gl M.c_MOST) sa_nil)))))
  (sss_cons (ss_set 1 C.n (se_op2 cm_div od_div (se_op2 cm_add (od_add C.k) (se_v 0) se_int) se_int))
  (sss_cons (ss_set 2 C.n (se_box (sf_lst sa_nil)))
  (sss_cons (ss_for C.p C.c (si_rg1 (se_v 0) M.g_range) (sg_nm 3 C.n) (sss_one (ss_drop (se_mt C.k (by decide) PySem.F.plainAttrs_list PySem.F.slot_list_append PySem.F.type_list_append md_append cm_append (se_v 2) (sa_cons (se_ifExp (st_cmp (oc_eq C.k C.u) (se_op2 cm_mod od_mod (se_v 3) se_int) se_int) (se_op2 cm_div od_div (se_v 3) se_int) (se_op2 cm_add (od_add C.k) (se_v 1) (se_op2 cm_div od_div (se_v 3) se_int))) sa_nil)))))
  (sss_one (ss_ret (se_fz 2)))))))
def s_times : Stmt := bd.getD 14 (.Pass ⟨0, 0, 0, 0⟩)
def n_times : List Str := ["order", "total", "ring", "one", "other"]
theorem sc_times : FnScope n_times ["order"] (defScope s_times) := ⟨rfl, rfl, rfl, by decide +kernel, rfl, by decide +kernel, by decide +kernel⟩
noncomputable def b_times : SemS := (sSeq (sSet 1 (fC (.int 1))) (sSeq (sFor (iVal (fCall S_rings 1 [] (fCons (fV 0) fNil))) (aNm 2) (sSeq (sPar 3 4 (fCons (fV 1) (fCons (fBi dLen (fCons (fV 2) fNil)) fNil))) (sSeq (sWhile (tCmp dGt (fV 4) (fC (.int 0))) (sPar 3 4 (fCons (fV 4) (fCons (fOp2 dMod (fV 3) (fV 4)) fNil)))) (sSet 1 (fOp2 dMul (fOp2 dDiv (fV 1) (fV 3)) (fBi dLen (fCons (fV 2) fNil))))))) (sRet (fV 1))))
noncomputable def S_times : DFn := dfn 5 b_times
theorem d_times {P : Program} {w : World} {K : PySem.W.Frag} {mg : Str → Option Value} {base : Heap} {F : Fx} (hF : F.K = K) (hx : F.xo = none) (M : Mod K mg F) (c_rings : Cal P w K mg base F 3 "rings" 1 [] S_rings) {f : Addr} (cdv : Value) (A : Around) (outer : List PySem.Env) (s : Shared) (H : Hp) (E : XK) (hr : Room 3 (A.deeper (envOfC "times" (defScope s_times) s.heap.objs.size f cdv))) :
  SSs (cxOf (L2.CX P w) P w K mg base n_times "times" (defScope s_times) f cdv A outer s H E) F (fun c d _ H' => E c d H') (defBody s_times) b_times := by
  have C := ctx_of (P := P) (w := w) (mg := mg) (base := base) (N := n_times) (qual := "times") (sc := defScope s_times) (f := f) (cdv := cdv) (A := A) (outer := outer) (s := s) (H := H) (E := E) (F := F) (L := 3) hF (by decide +kernel) hr
  exact (sss_cons (ss_set 1 C.n se_int)
  (sss_cons (ss_for C.p C.c (si_val C.k (se_call c_rings (C.r.mono (by decide)) C.t (sa_cons (se_v 0) sa_nil))) (sg_nm 2 C.n) (sss_cons (ss_par 3 4 C.c C.n (sa_cons (se_v 1) (sa_cons (se_bi (cd_len C.k) cm_len M.g_len (sa_cons (se_v 2) sa_nil)) sa_nil)))
  (sss_cons (ss_while C.p (st_cmp oc_gt (se_v 4) se_int) (sss_one (ss_par 3 4 C.c C.n (sa_cons (se_v 4) (sa_cons (se_op2 cm_mod od_mod (se_v 3) (se_v 4)) sa_nil)))))
  (sss_one (ss_set 1 C.n (se_op2 cm_mul od_mul (se_op2 cm_div od_div (se_v 1) (se_v 3)) (se_bi (cd_len C.k) cm_len M.g_len (sa_cons (se_v 2) sa_nil))))))))
  (sss_one (ss_ret (se_v 1)))))
def s_often : Stmt := bd.getD 15 (.Pass ⟨0, 0, 0, 0⟩)
def n_often : List Str := ["order", "many", "places", "found", "ring", "index"]
theorem sc_often : FnScope n_often ["order", "many"] (defScope s_often) := ⟨rfl, rfl, rfl, by decide +kernel, rfl, by decide +kernel, by decide +kernel⟩
noncomputable def b_often : SemS := (sSeq (sSet 2 (fCall S_checked_order 1 [] (fCons (fV 0) fNil))) (sSeq (sIf (tNot (fTru (fCall S_is_number 3 [] (fCons (fV 1) (fCons (fC (.int 0)) (fCons (fOp2 dPow (fC (.int 10)) (fC (.int 18))) fNil)))))) (sRaise "InvalidNumber" (fCons (fC (.str "no times")) fNil)) sNext) (sSeq (sSet 3 (fBox (fRep (fTree (fItems (fCons (fC (.int 0)) fNil))) (fBi dLen (fCons (fV 2) fNil))))) (sSeq (sFor (iVal (fCall S_rings 1 [] (fCons (fV 2) fNil))) (aNm 4) (sFor (iRg1 (fBi dLen (fCons (fV 4) fNil))) (aNm 5) (sSetI (fV 3) (fIx (fV 4) (fV 5)) (fIx (fV 4) (fOp2 dMod (fOp2 dAdd (fV 5) (fV 1)) (fBi dLen (fCons (fV 4) fNil))))))) (sRet (fFz 3))))))
noncomputable def S_often : DFn := dfn 6 b_often
theorem d_often {P : Program} {w : World} {K : PySem.W.Frag} {mg : Str → Option Value} {base : Heap} {F : Fx} (hF : F.K = K) (hx : F.xo = none) (M : Mod K mg F) (c_checked_order : Cal P w K mg base F 2 "checked_order" 1 [] S_checked_order) (c_is_number_3 : Cal P w K mg base F 1 "is_number" 3 [] S_is_number) (c_rings : Cal P w K mg base F 3 "rings" 1 [] S_rings) {f : Addr} (cdv : Value) (A : Around) (outer : List PySem.Env) (s : Shared) (H : Hp) (E : XK) (hr : Room 3 (A.deeper (envOfC "often" (defScope s_often) s.heap.objs.size f cdv))) :
  SSs (cxOf (L2.CX P w) P w K mg base n_often "often" (defScope s_often) f cdv A outer s H E) F (fun c d _ H' => E c d H') (defBody s_often) b_often := by
  have C := ctx_of (P := P) (w := w) (mg := mg) (base := base) (N := n_often) (qual := "often") (sc := defScope s_often) (f := f) (cdv := cdv) (A := A) (outer := outer) (s := s) (H := H) (E := E) (F := F) (L := 3) hF (by decide +kernel) hr
  exact (sss_cons (ss_set 2 C.n (se_call c_checked_order (C.r.mono (by decide)) C.t (sa_cons (se_v 0) sa_nil)))
  (sss_cons (ss_if (st_not (st_tru C.k (se_call c_is_number_3 (C.r.mono (by decide)) C.t (sa_cons (se_v 1) (sa_cons se_int (sa_cons (se_op2 cm_pow od_pow se_int se_int) sa_nil)))))) (sss_one (ss_raise M.x_InvalidNumber C.c C.t (sa_cons se_str sa_nil))) sss_nil)
  (sss_cons (ss_set 3 C.n (se_box (sf_rep (se_tree (sf_lst (sa_cons se_int sa_nil))) (se_bi (cd_len C.k) cm_len M.g_len (sa_cons (se_v 2) sa_nil)))))
  (sss_cons (ss_for C.p C.c (si_val C.k (se_call c_rings (C.r.mono (by decide)) C.t (sa_cons (se_v 2) sa_nil))) (sg_nm 4 C.n) (sss_one (ss_for C.p C.c (si_rg1 (se_bi (cd_len C.k) cm_len M.g_len (sa_cons (se_v 4) sa_nil)) M.g_range) (sg_nm 5 C.n) (sss_one (ss_setI C.u (se_v 3) (se_ix C.k C.u (se_v 4) (se_v 5)) (se_ix C.k C.u (se_v 4) (se_op2 cm_mod od_mod (se_op2 cm_add (od_add C.k) (se_v 5) (se_v 1)) (se_bi (cd_len C.k) cm_len M.g_len (sa_cons (se_v 4) sa_nil)))))))))
  (sss_one (ss_ret (se_fz 3)))))))
def s__law_refused : Stmt := bd.getD 29 (.Pass ⟨0, 0, 0, 0⟩)
def n__law_refused : List Str := ["choice", "many", "value", "problem"]
theorem sc__law_refused : FnScope n__law_refused ["choice", "many", "value"] (defScope s__law_refused) := ⟨rfl, rfl, rfl, by decide +kernel, rfl, by decide +kernel, by decide +kernel⟩
noncomputable def b__law_refused : SemS := (sSeq (sTryAs cat_InnError 3 (sIf (tCmp dEq (fV 0) (fC (.int 0))) (sDrop (fCall S_order_at 2 [] (fCons (fV 1) (fCons (fV 2) fNil)))) (sIf (tCmp dEq (fV 0) (fC (.int 1))) (sDrop (fCall S_place_of 1 [] (fCons (fV 2) fNil))) (sDrop (fCall S_often 2 [] (fCons (fTree (fItems (fCons (fC (.int 1)) (fCons (fC (.int 0)) fNil)))) (fCons (fV 2) fNil)))))) (sSeq (sIf (tOr (tCmp dEq (fIsE ecs isa_InvalidNumber (fV 3)) (fIsE ecs isa_InvalidPaper (fV 3))) (tNot (fTru (fIsE ecs isa_ValueError (fV 3))))) (sRet (fC (.str "other"))) sNext) (sRet (fIf (fTru (fIsE ecs isa_InvalidNumber (fV 3))) (fC (.str "number")) (fC (.str "paper")))))) (sRet (fC (.str "none"))))
noncomputable def S__law_refused : DFn := dfn 4 b__law_refused
theorem d__law_refused {P : Program} {w : World} {K : PySem.W.Frag} {mg : Str → Option Value} {base : Heap} {F : Fx} (hF : F.K = K) (hx : F.xo = none) (M : Mod K mg F) (c_order_at : Cal P w K mg base F 3 "order_at" 2 [] S_order_at) (c_place_of : Cal P w K mg base F 3 "place_of" 1 [] S_place_of) (c_often : Cal P w K mg base F 4 "often" 2 [] S_often) {f : Addr} (cdv : Value) (A : Around) (outer : List PySem.Env) (s : Shared) (H : Hp) (E : XK) (hr : Room 4 (A.deeper (envOfC "_law_refused" (defScope s__law_refused) s.heap.objs.size f cdv))) :
  SSs (cxOf (L2.CX P w) P w K mg base n__law_refused "_law_refused" (defScope s__law_refused) f cdv A outer s H E) F (fun c d _ H' => E c d H') (defBody s__law_refused) b__law_refused := by
  have C := ctx_of (P := P) (w := w) (mg := mg) (base := base) (N := n__law_refused) (qual := "_law_refused") (sc := defScope s__law_refused) (f := f) (cdv := cdv) (A := A) (outer := outer) (s := s) (H := H) (E := E) (F := F) (L := 4) hF (by decide +kernel) hr
  exact (sss_cons (ss_tryAs 3 C.s C.f C.n hx M.t_InnError C.t (fun W1 pn xe tk ps => have C := C.tr tk ps; (sss_one (ss_if (st_cmp (oc_eq C.k C.u) (se_v 0) se_int) (sss_one (ss_drop (se_call c_order_at (C.r.mono (by decide)) C.t (sa_cons (se_v 1) (sa_cons (se_v 2) sa_nil))))) (sss_one (ss_if (st_cmp (oc_eq C.k C.u) (se_v 0) se_int) (sss_one (ss_drop (se_call c_place_of (C.r.mono (by decide)) C.t (sa_cons (se_v 2) sa_nil)))) (sss_one (ss_drop (se_call c_often (C.r.mono (by decide)) C.t (sa_cons (se_tree (sf_lst (sa_cons se_int (sa_cons se_int sa_nil)))) (sa_cons (se_v 2) sa_nil)))))))))) (fun a oe c0 D0 pn h0 hz hv => have C := C.su a oe pn c0; (sss_cons (ss_if ((sw_or (st_cmp (oc_eq C.k C.u) (se_isE h0 hz hv M.ec M.i_InvalidNumber M.g_isinstance (se_v 3)) (se_isE h0 hz hv M.ec M.i_InvalidPaper M.g_isinstance (se_v 3))) (sw_or1 (st_not (st_tru C.k (se_isE h0 hz hv M.ec M.i_ValueError M.g_isinstance (se_v 3))))))).st (sss_one (ss_ret se_str)) sss_nil)
  (sss_one (ss_ret (se_ifExp (st_tru C.k (se_isE h0 hz hv M.ec M.i_InvalidNumber M.g_isinstance (se_v 3))) se_str se_str))))))
  (sss_one (ss_ret se_str)))
def s__law_same : Stmt := bd.getD 21 (.Pass ⟨0, 0, 0, 0⟩)
def n__law_same : List Str := ["actual", "due", "k"]
theorem sc__law_same : FnScope n__law_same ["actual", "due"] (defScope s__law_same) := ⟨rfl, rfl, rfl, by decide +kernel, rfl, by decide +kernel, by decide +kernel⟩
noncomputable def b__law_same (S0 : DFn) : SemS := (sSeq (sIf (tCmp dIs (fV 1) (fC .non)) (sRet (fCmp dIs (fV 0) (fC .non))) sNext) (sSeq (sIf (fTru (fIsI2 .tup .lst (fV 1))) (sSeq (sIf (tOr (tCmp dNe (fIsI .tup (fV 1)) (fIsI .tup (fV 0))) (tCmp dNe (fIsI .lst (fV 1)) (fIsI .lst (fV 0)))) (sRet (fC (.bl false))) sNext) (sSeq (sIf (tCmp dNe (fBi dLen (fCons (fV 0) fNil)) (fBi dLen (fCons (fV 1) fNil))) (sRet (fC (.bl false))) sNext) (sSeq (sFor (iRg1 (fBi dLen (fCons (fV 1) fNil))) (aNm 2) (sIf (tNot (fTru (fCall S0 2 [] (fCons (fIx (fV 0) (fV 2)) (fCons (fIx (fV 1) (fV 2)) fNil))))) (sRet (fC (.bl false))) sNext)) (sRet (fC (.bl true)))))) sNext) (sSeq (sIf (fTru (fIsI .bl (fV 1))) (sRet (fAnd (fIsI .bl (fV 0)) (fCmp dEq (fV 0) (fV 1)))) sNext) (sSeq (sIf (fTru (fIsI .int (fV 1))) (sRet (fAnd (fIsI .int (fV 0)) (fAnd (fNot (fTru (fIsI .bl (fV 0)))) (fCmp dEq (fV 0) (fV 1))))) sNext) (sRet (fAnd (fIsI .str (fV 0)) (fCmp dEq (fV 0) (fV 1))))))))
noncomputable def S__law_same : DFn := dfnR 3 b__law_same 8
theorem d__law_same {P : Program} {w : World} {K : PySem.W.Frag} {mg : Str → Option Value} {base : Heap} {F : Fx} (hF : F.K = K) (hx : F.xo = none) (M : Mod K mg F) {k : Nat} {S0 : DFn} (hk : 0 ≤ k) (c_self : Cal P w K mg base F k "_law_same" 2 [] S0) {f : Addr} (cdv : Value) (A : Around) (outer : List PySem.Env) (s : Shared) (H : Hp) (E : XK) (hr : Room k (A.deeper (envOfC "_law_same" (defScope s__law_same) s.heap.objs.size f cdv))) :
  SSs (cxOf (L2.CX P w) P w K mg base n__law_same "_law_same" (defScope s__law_same) f cdv A outer s H E) F (fun c d _ H' => E c d H') (defBody s__law_same) (b__law_same S0) := by
  have C := ctx_of (P := P) (w := w) (mg := mg) (base := base) (N := n__law_same) (qual := "_law_same") (sc := defScope s__law_same) (f := f) (cdv := cdv) (A := A) (outer := outer) (s := s) (H := H) (E := E) (F := F) (L := k) hF (by decide +kernel) hr
  exact (sss_cons (ss_if (st_cmp oc_is (se_v 1) se_non) (sss_one (ss_ret (se_cmp oc_is (se_v 0) se_non))) sss_nil)
  (sss_cons (ss_if (st_tru C.k (se_isi2 .tup .lst C.k M.g_isinstance M.g_tuple M.g_list (se_v 1))) (sss_cons (ss_if ((sw_or (st_cmp (oc_ne C.k C.u) (se_isi .tup C.k M.g_isinstance M.g_tuple (se_v 1)) (se_isi .tup C.k M.g_isinstance M.g_tuple (se_v 0))) (sw_or1 (st_cmp (oc_ne C.k C.u) (se_isi .lst C.k M.g_isinstance M.g_list (se_v 1)) (se_isi .lst C.k M.g_isinstance M.g_list (se_v 0)))))).st (sss_one (ss_ret se_bl)) sss_nil)
  (sss_cons (ss_if (st_cmp (oc_ne C.k C.u) (se_bi (cd_len C.k) cm_len M.g_len (sa_cons (se_v 0) sa_nil)) (se_bi (cd_len C.k) cm_len M.g_len (sa_cons (se_v 1) sa_nil))) (sss_one (ss_ret se_bl)) sss_nil)
  (sss_cons (ss_for C.p C.c (si_rg1 (se_bi (cd_len C.k) cm_len M.g_len (sa_cons (se_v 1) sa_nil)) M.g_range) (sg_nm 2 C.n) (sss_one (ss_if (st_not (st_tru C.k (se_call c_self (C.r.mono (by omega)) C.t (sa_cons (se_ix C.k C.u (se_v 0) (se_v 2)) (sa_cons (se_ix C.k C.u (se_v 1) (se_v 2)) sa_nil))))) (sss_one (ss_ret se_bl)) sss_nil)))
  (sss_one (ss_ret se_bl))))) sss_nil)
  (sss_cons (ss_if (st_tru C.k (se_isi .bl C.k M.g_isinstance M.g_bool (se_v 1))) (sss_one (ss_ret (se_and (se_isi .bl C.k M.g_isinstance M.g_bool (se_v 0)) (se_one (se_cmp (oc_eq C.k C.u) (se_v 0) (se_v 1)))))) sss_nil)
  (sss_cons (ss_if (st_tru C.k (se_isi .int C.k M.g_isinstance M.g_int (se_v 1))) (sss_one (ss_ret (se_and (se_isi .int C.k M.g_isinstance M.g_int (se_v 0)) (se_and (se_notV (se_isi .bl C.k M.g_isinstance M.g_bool (se_v 0)) C.k) (se_one (se_cmp (oc_eq C.k C.u) (se_v 0) (se_v 1))))))) sss_nil)
  (sss_one (ss_ret (se_and (se_isi .str C.k M.g_isinstance M.g_str (se_v 0)) (se_one (se_cmp (oc_eq C.k C.u) (se_v 0) (se_v 1))))))))))
def s_law : Stmt := bd.getD 30 (.Pass ⟨0, 0, 0, 0⟩)
def n_law : List Str := ["script", "pool", "many", "every", "k", "place", "big", "order", "after", "start", "have", "count", "rows", "number", "cards", "half", "due"]
theorem sc_law : FnScope n_law ["script"] (defScope s_law) := ⟨rfl, rfl, rfl, by decide +kernel, rfl, by decide +kernel, by decide +kernel⟩
noncomputable def b_law : SemS := (sSeq (sSet 1 (fCall S__law_pool 1 [] (fCons (fV 0) fNil))) (sSeq (sSet 2 (fCall S__law_draw 2 [] (fCons (fV 1) (fCons (fC (.int 6)) fNil)))) (sSeq (sSet 3 (fCall S__law_all 1 [] (fCons (fV 2) fNil))) (sSeq (sFor (iRg1 (fC (.int 5))) (aNm 4) (sSeq (sSet 5 (fCall S__law_draw 2 [] (fCons (fV 1) (fCons (fBi dLen (fCons (fV 3) fNil)) fNil)))) (sSeq (sIf (tOr (tNot (fTru (fCall S__law_same 2 [] (fCons (fCall S_place_of 1 [] (fCons (fTree (fBl dList (fCons (fIx (fV 3) (fV 5)) fNil))) fNil)) (fCons (fV 5) fNil))))) (tNot (fTru (fCall S__law_same 2 [] (fCons (fCall S_order_at 2 [] (fCons (fV 2) (fCons (fV 5) fNil))) (fCons (fIx (fV 3) (fV 5)) fNil)))))) (sRet (fC (.bl false))) sNext) (sIf (tNot (fTru (fCall S__law_same 2 [] (fCons (fCall S_next_order 1 [] (fCons (fTree (fBl dList (fCons (fIx (fV 3) (fV 5)) fNil))) fNil)) (fCons (fIf (tCmp dLt (fOp2 dAdd (fV 5) (fC (.int 1))) (fBi dLen (fCons (fV 3) fNil))) (fIx (fV 3) (fOp2 dAdd (fV 5) (fC (.int 1)))) (fC .non)) fNil))))) (sRet (fC (.bl false))) sNext)))) (sSeq (sSet 6 (fOp2 dAdd (fC (.int 6)) (fCall S__law_draw 2 [] (fCons (fV 1) (fCons (fC (.int 15)) fNil))))) (sSeq (sSet 7 (fCall S__law_order 2 [] (fCons (fV 1) (fCons (fV 6) fNil)))) (sSeq (sIf (tNot (fTru (fCall S__law_same 2 [] (fCons (fCall S_order_at 2 [] (fCons (fV 6) (fCons (fCall S_place_of 1 [] (fCons (fTree (fBl dList (fCons (fV 7) fNil))) fNil)) fNil))) (fCons (fV 7) fNil))))) (sRet (fC (.bl false))) sNext) (sSeq (sSet 8 (fCall S_next_order 1 [] (fCons (fTree (fBl dList (fCons (fV 7) fNil))) fNil))) (sSeq (sIf (tAnd (tCmp dIsNot (fV 8) (fC .non)) (tNot (fTru (fCall S__law_same 2 [] (fCons (fCall S_place_of 1 [] (fCons (fV 8) fNil)) (fCons (fOp2 dAdd (fCall S_place_of 1 [] (fCons (fV 7) fNil)) (fC (.int 1))) fNil)))))) (sRet (fC (.bl false))) sNext) (sSeq (sSet 7 (fCall S__law_order 2 [] (fCons (fV 1) (fCons (fCall S__law_draw 2 [] (fCons (fV 1) (fCons (fC (.int 9)) fNil))) fNil)))) (sSeq (sSet 9 (fTree (fRgL1 (fBi dLen (fCons (fV 7) fNil))))) (sSeq (sSet 10 (fV 9)) (sSeq (sSet 11 (fC (.int 0))) (sSeq (sSet 12 (fBox (fItems (fCons (fV 9) fNil)))) (sSeq (sWhile (tOr (tCmp dEq (fV 11) (fC (.int 0))) (tCmp dNe (fV 10) (fV 9))) (sSeq (sSet 10 (fCall S__law_then 2 [] (fCons (fV 10) (fCons (fV 7) fNil)))) (sSeq (sSet 11 (fOp2 dAdd (fV 11) (fC (.int 1)))) (sDrop (fMtT "list" dAppend (fV 12) (fCons (fV 10) fNil)))))) (sSeq (sIf (tNot (fTru (fCall S__law_same 2 [] (fCons (fCall S_times 1 [] (fCons (fTree (fBl dList (fCons (fV 7) fNil))) fNil)) (fCons (fV 11) fNil))))) (sRet (fC (.bl false))) sNext) (sSeq (sFor (iRg1 (fC (.int 4))) (aNm 4) (sSeq (sSet 13 (fCall S__law_pick 2 [] (fCons (fV 1) (fCons (fTree (fItems (fCons (fCall S__law_draw 2 [] (fCons (fV 1) (fCons (fOp2 dAdd (fOp2 dMul (fC (.int 2)) (fV 11)) (fC (.int 2))) fNil))) (fCons (fOp2 dPow (fC (.int 10)) (fC (.int 18))) (fCons (fOp2 dAdd (fOp2 dPow (fC (.int 10)) (fC (.int 15))) (fCall S__law_draw 2 [] (fCons (fV 1) (fCons (fC (.int 99)) fNil)))) fNil))))) fNil)))) (sIf (tNot (fTru (fCall S__law_same 2 [] (fCons (fCall S_often 2 [] (fCons (fTree (fBl dList (fCons (fV 7) fNil))) (fCons (fV 13) fNil))) (fCons (fIx (fV 12) (fOp2 dMod (fBi dInt (fCons (fV 13) fNil)) (fV 11))) fNil))))) (sRet (fC (.bl false))) sNext))) (sSeq (sSet 13 (fCall S__law_draw 2 [] (fCons (fV 1) (fCons (fC (.int 12)) fNil)))) (sSeq (sSet 14 (fTree (fRgL1 (fV 13)))) (sSeq (sSet 15 (fOp2 dDiv (fOp2 dAdd (fV 13) (fC (.int 1))) (fC (.int 2)))) (sSeq (sSet 16 (fTree (fItems fNil))) (sSeq (sFor (iRg1 (fV 15)) (aNm 4) (sSet 16 (fTree (fCat (fTree (fCat (fV 16) (fTree (fItems (fCons (fIx (fV 14) (fV 4)) fNil))))) (fTree (fSlL (fV 14) (oSome (fOp2 dAdd (fV 15) (fV 4))) (oSome (fOp2 dAdd (fOp2 dAdd (fV 15) (fV 4)) (fC (.int 1)))))))))) (sSeq (sIf (tNot (fTru (fCall S__law_same 2 [] (fCons (fCall S_shuffled 2 [] (fCons (fV 14) (fCons (fCall S_riffle 1 [] (fCons (fV 13) fNil)) fNil))) (fCons (fV 16) fNil))))) (sRet (fC (.bl false))) sNext) (sSeq (sIf (tOr (tCmp dNe (fCall S__law_refused 3 [] (fCons (fC (.int 0)) (fCons (fV 2) (fCons (fCall S__law_pick 2 [] (fCons (fV 1) (fCons (fTree (fItems (fCons (fOp1 dNeg (fC (.int 1))) (fCons (fBi dLen (fCons (fV 3) fNil)) (fCons (fC (.bl true)) fNil))))) fNil))) fNil)))) (fC (.str "number"))) (tCmp dNe (fCall S__law_refused 3 [] (fCons (fC (.int 0)) (fCons (fC (.int 21)) (fCons (fC (.int 0)) fNil)))) (fC (.str "number")))) (sRet (fC (.bl false))) sNext) (sSeq (sIf (tCmp dNe (fCall S__law_refused 3 [] (fCons (fC (.int 2)) (fCons (fC (.int 0)) (fCons (fCall S__law_pick 2 [] (fCons (fV 1) (fCons (fTree (fItems (fCons (fOp1 dNeg (fC (.int 1))) (fCons (fOp2 dAdd (fOp2 dPow (fC (.int 10)) (fC (.int 18))) (fC (.int 1))) (fCons (fC (.bl true)) fNil))))) fNil))) fNil)))) (fC (.str "number"))) (sRet (fC (.bl false))) sNext) (sRet (fCmp dEq (fCall S__law_refused 3 [] (fCons (fC (.int 1)) (fCons (fC (.int 0)) (fCons (fTree (fRgL1 (fC (.int 21)))) fNil)))) (fC (.str "paper")))))))))))))))))))))))))))))
noncomputable def S_law : DFn := dfn 17 b_law
theorem d_law {P : Program} {w : World} {K : PySem.W.Frag} {mg : Str → Option Value} {base : Heap} {F : Fx} (hF : F.K = K) (hx : F.xo = none) (M : Mod K mg F) (c__law_pool : Cal P w K mg base F 1 "_law_pool" 1 [] S__law_pool) (c__law_draw : Cal P w K mg base F 1 "_law_draw" 2 [] S__law_draw) (c__law_all : Cal P w K mg base F 1 "_law_all" 1 [] S__law_all) (c_place_of : Cal P w K mg base F 3 "place_of" 1 [] S_place_of) (c__law_same : Cal P w K mg base F 8 "_law_same" 2 [] S__law_same) (c_order_at : Cal P w K mg base F 3 "order_at" 2 [] S_order_at) (c_next_order : Cal P w K mg base F 3 "next_order" 1 [] S_next_order) (c__law_order : Cal P w K mg base F 2 "_law_order" 2 [] S__law_order) (c__law_then : Cal P w K mg base F 1 "_law_then" 2 [] S__law_then) (c_times : Cal P w K mg base F 4 "times" 1 [] S_times) (c__law_pick : Cal P w K mg base F 2 "_law_pick" 2 [] S__law_pick) (c_often : Cal P w K mg base F 4 "often" 2 [] S_often) (c_riffle : Cal P w K mg base F 3 "riffle" 1 [] S_riffle) (c_shuffled : Cal P w K mg base F 3 "shuffled" 2 [] S_shuffled) (c__law_refused : Cal P w K mg base F 5 "_law_refused" 3 [] S__law_refused) {f : Addr} (cdv : Value) (A : Around) (outer : List PySem.Env) (s : Shared) (H : Hp) (E : XK) (hr : Room 8 (A.deeper (envOfC "law" (defScope s_law) s.heap.objs.size f cdv))) :
  SSs (cxOf (L2.CX P w) P w K mg base n_law "law" (defScope s_law) f cdv A outer s H E) F (fun c d _ H' => E c d H') (defBody s_law) b_law := by
  have C := ctx_of (P := P) (w := w) (mg := mg) (base := base) (N := n_law) (qual := "law") (sc := defScope s_law) (f := f) (cdv := cdv) (A := A) (outer := outer) (s := s) (H := H) (E := E) (F := F) (L := 8) hF (by decide +kernel) hr
  exact (sss_cons (ss_set 1 C.n (se_call c__law_pool (C.r.mono (by decide)) C.t (sa_cons (se_v 0) sa_nil)))
  (sss_cons (ss_set 2 C.n (se_call c__law_draw (C.r.mono (by decide)) C.t (sa_cons (se_v 1) (sa_cons se_int sa_nil))))
  (sss_cons (ss_set 3 C.n (se_call c__law_all (C.r.mono (by decide)) C.t (sa_cons (se_v 2) sa_nil)))
  (sss_cons (ss_for C.p C.c (si_rg1 se_int M.g_range) (sg_nm 4 C.n) (sss_cons (ss_set 5 C.n (se_call c__law_draw (C.r.mono (by decide)) C.t (sa_cons (se_v 1) (sa_cons (se_bi (cd_len C.k) cm_len M.g_len (sa_cons (se_v 3) sa_nil)) sa_nil))))
  (sss_cons (ss_if ((sw_or (st_not (st_tru C.k (se_call c__law_same (C.r.mono (by decide)) C.t (sa_cons (se_call c_place_of (C.r.mono (by decide)) C.t (sa_cons (se_tree (sf_bty (cf_list C.k) cm_list M.g_list (sa_cons (se_ix C.k C.u (se_v 3) (se_v 5)) sa_nil))) sa_nil)) (sa_cons (se_v 5) sa_nil))))) (sw_or1 (st_not (st_tru C.k (se_call c__law_same (C.r.mono (by decide)) C.t (sa_cons (se_call c_order_at (C.r.mono (by decide)) C.t (sa_cons (se_v 2) (sa_cons (se_v 5) sa_nil))) (sa_cons (se_ix C.k C.u (se_v 3) (se_v 5)) sa_nil)))))))).st (sss_one (ss_ret se_bl)) sss_nil)
  (sss_one (ss_if (st_not (st_tru C.k (se_call c__law_same (C.r.mono (by decide)) C.t (sa_cons (se_call c_next_order (C.r.mono (by decide)) C.t (sa_cons (se_tree (sf_bty (cf_list C.k) cm_list M.g_list (sa_cons (se_ix C.k C.u (se_v 3) (se_v 5)) sa_nil))) sa_nil)) (sa_cons (se_ifExp (st_cmp oc_lt (se_op2 cm_add (od_add C.k) (se_v 5) se_int) (se_bi (cd_len C.k) cm_len M.g_len (sa_cons (se_v 3) sa_nil))) (se_ix C.k C.u (se_v 3) (se_op2 cm_add (od_add C.k) (se_v 5) se_int)) se_non) sa_nil))))) (sss_one (ss_ret se_bl)) sss_nil)))))
  (sss_cons (ss_set 6 C.n (se_op2 cm_add (od_add C.k) se_int (se_call c__law_draw (C.r.mono (by decide)) C.t (sa_cons (se_v 1) (sa_cons se_int sa_nil)))))
  (sss_cons (ss_set 7 C.n (se_call c__law_order (C.r.mono (by decide)) C.t (sa_cons (se_v 1) (sa_cons (se_v 6) sa_nil))))
  (sss_cons (ss_if (st_not (st_tru C.k (se_call c__law_same (C.r.mono (by decide)) C.t (sa_cons (se_call c_order_at (C.r.mono (by decide)) C.t (sa_cons (se_v 6) (sa_cons (se_call c_place_of (C.r.mono (by decide)) C.t (sa_cons (se_tree (sf_bty (cf_list C.k) cm_list M.g_list (sa_cons (se_v 7) sa_nil))) sa_nil)) sa_nil))) (sa_cons (se_v 7) sa_nil))))) (sss_one (ss_ret se_bl)) sss_nil)
  (sss_cons (ss_set 8 C.n (se_call c_next_order (C.r.mono (by decide)) C.t (sa_cons (se_tree (sf_bty (cf_list C.k) cm_list M.g_list (sa_cons (se_v 7) sa_nil))) sa_nil)))
  (sss_cons (ss_if ((sw_and (st_cmp oc_isNot (se_v 8) se_non) (sw_and1 (st_not (st_tru C.k (se_call c__law_same (C.r.mono (by decide)) C.t (sa_cons (se_call c_place_of (C.r.mono (by decide)) C.t (sa_cons (se_v 8) sa_nil)) (sa_cons (se_op2 cm_add (od_add C.k) (se_call c_place_of (C.r.mono (by decide)) C.t (sa_cons (se_v 7) sa_nil)) se_int) sa_nil)))))))).st (sss_one (ss_ret se_bl)) sss_nil)
  (sss_cons (ss_set 7 C.n (se_call c__law_order (C.r.mono (by decide)) C.t (sa_cons (se_v 1) (sa_cons (se_call c__law_draw (C.r.mono (by decide)) C.t (sa_cons (se_v 1) (sa_cons se_int sa_nil))) sa_nil))))
  (sss_cons (ss_set 9 C.n (se_tree (sf_rgL1 C.c M.g_list M.g_range (se_bi (cd_len C.k) cm_len M.g_len (sa_cons (se_v 7) sa_nil)))))
  (sss_cons (ss_set 10 C.n (se_v 9))
  (sss_cons (ss_set 11 C.n se_int)
  (sss_cons (ss_set 12 C.n (se_box (sf_lst (sa_cons (se_v 9) sa_nil))))
  (sss_cons (ss_while C.p ((sw_or (st_cmp (oc_eq C.k C.u) (se_v 11) se_int) (sw_or1 (st_cmp (oc_ne C.k C.u) (se_v 10) (se_v 9))))).st (sss_cons (ss_set 10 C.n (se_call c__law_then (C.r.mono (by decide)) C.t (sa_cons (se_v 10) (sa_cons (se_v 7) sa_nil))))
  (sss_cons (ss_set 11 C.n (se_op2 cm_add (od_add C.k) (se_v 11) se_int))
  (sss_one (ss_drop (se_mt C.k (by decide) PySem.F.plainAttrs_list PySem.F.slot_list_append PySem.F.type_list_append md_append cm_append (se_v 12) (sa_cons (se_v 10) sa_nil)))))))
  (sss_cons (ss_if (st_not (st_tru C.k (se_call c__law_same (C.r.mono (by decide)) C.t (sa_cons (se_call c_times (C.r.mono (by decide)) C.t (sa_cons (se_tree (sf_bty (cf_list C.k) cm_list M.g_list (sa_cons (se_v 7) sa_nil))) sa_nil)) (sa_cons (se_v 11) sa_nil))))) (sss_one (ss_ret se_bl)) sss_nil)
  (sss_cons (ss_for C.p C.c (si_rg1 se_int M.g_range) (sg_nm 4 C.n) (sss_cons (ss_set 13 C.n (se_call c__law_pick (C.r.mono (by decide)) C.t (sa_cons (se_v 1) (sa_cons (se_tree (sf_lst (sa_cons (se_call c__law_draw (C.r.mono (by decide)) C.t (sa_cons (se_v 1) (sa_cons (se_op2 cm_add (od_add C.k) (se_op2 cm_mul od_mul se_int (se_v 11)) se_int) sa_nil))) (sa_cons (se_op2 cm_pow od_pow se_int se_int) (sa_cons (se_op2 cm_add (od_add C.k) (se_op2 cm_pow od_pow se_int se_int) (se_call c__law_draw (C.r.mono (by decide)) C.t (sa_cons (se_v 1) (sa_cons se_int sa_nil)))) sa_nil))))) sa_nil))))
  (sss_one (ss_if (st_not (st_tru C.k (se_call c__law_same (C.r.mono (by decide)) C.t (sa_cons (se_call c_often (C.r.mono (by decide)) C.t (sa_cons (se_tree (sf_bty (cf_list C.k) cm_list M.g_list (sa_cons (se_v 7) sa_nil))) (sa_cons (se_v 13) sa_nil))) (sa_cons (se_ix C.k C.u (se_v 12) (se_op2 cm_mod od_mod (se_bty cd_int cm_int M.g_int (sa_cons (se_v 13) sa_nil)) (se_v 11))) sa_nil))))) (sss_one (ss_ret se_bl)) sss_nil))))
  (sss_cons (ss_set 13 C.n (se_call c__law_draw (C.r.mono (by decide)) C.t (sa_cons (se_v 1) (sa_cons se_int sa_nil))))
  (sss_cons (ss_set 14 C.n (se_tree (sf_rgL1 C.c M.g_list M.g_range (se_v 13))))
  (sss_cons (ss_set 15 C.n (se_op2 cm_div od_div (se_op2 cm_add (od_add C.k) (se_v 13) se_int) se_int))
  (sss_cons (ss_set 16 C.n (se_tree (sf_lst sa_nil)))
  (sss_cons (ss_for C.p C.c (si_rg1 (se_v 15) M.g_range) (sg_nm 4 C.n) (sss_one (ss_set 16 C.n (se_tree (sf_cat (se_tree (sf_cat (se_v 16) (se_tree (sf_lst (sa_cons (se_ix C.k C.u (se_v 14) (se_v 4)) sa_nil))))) (se_tree (sf_sl C.k (se_v 14) (so_some (se_op2 cm_add (od_add C.k) (se_v 15) (se_v 4))) (so_some (se_op2 cm_add (od_add C.k) (se_op2 cm_add (od_add C.k) (se_v 15) (se_v 4)) se_int)))))))))
  (sss_cons (ss_if (st_not (st_tru C.k (se_call c__law_same (C.r.mono (by decide)) C.t (sa_cons (se_call c_shuffled (C.r.mono (by decide)) C.t (sa_cons (se_v 14) (sa_cons (se_call c_riffle (C.r.mono (by decide)) C.t (sa_cons (se_v 13) sa_nil)) sa_nil))) (sa_cons (se_v 16) sa_nil))))) (sss_one (ss_ret se_bl)) sss_nil)
  (sss_cons (ss_if ((sw_or (st_cmp (oc_ne C.k C.u) (se_call c__law_refused (C.r.mono (by decide)) C.t (sa_cons se_int (sa_cons (se_v 2) (sa_cons (se_call c__law_pick (C.r.mono (by decide)) C.t (sa_cons (se_v 1) (sa_cons (se_tree (sf_lst (sa_cons (se_op1 cm_neg od_neg se_int) (sa_cons (se_bi (cd_len C.k) cm_len M.g_len (sa_cons (se_v 3) sa_nil)) (sa_cons se_bl sa_nil))))) sa_nil))) sa_nil)))) se_str) (sw_or1 (st_cmp (oc_ne C.k C.u) (se_call c__law_refused (C.r.mono (by decide)) C.t (sa_cons se_int (sa_cons se_int (sa_cons se_int sa_nil)))) se_str)))).st (sss_one (ss_ret se_bl)) sss_nil)
  (sss_cons (ss_if (st_cmp (oc_ne C.k C.u) (se_call c__law_refused (C.r.mono (by decide)) C.t (sa_cons se_int (sa_cons se_int (sa_cons (se_call c__law_pick (C.r.mono (by decide)) C.t (sa_cons (se_v 1) (sa_cons (se_tree (sf_lst (sa_cons (se_op1 cm_neg od_neg se_int) (sa_cons (se_op2 cm_add (od_add C.k) (se_op2 cm_pow od_pow se_int se_int) se_int) (sa_cons se_bl sa_nil))))) sa_nil))) sa_nil)))) se_str) (sss_one (ss_ret se_bl)) sss_nil)
  (sss_one (ss_ret (se_cmp (oc_eq C.k C.u) (se_call c__law_refused (C.r.mono (by decide)) C.t (sa_cons se_int (sa_cons se_int (sa_cons (se_tree (sf_rgL1 C.c M.g_list M.g_range se_int)) sa_nil)))) se_str))))))))))))))))))))))))))))
end K77

namespace K77
open PySem PySem.Spec Z
/-! ### the pool -/
theorem mul_ok {a b : Int} (h : a.natAbs.log2 + b.natAbs.log2 < 1000000) (μ : Mem) : dMul (.int a) (.int b) μ = .ok (.int (a * b)) μ := by
  show (if _ then _ else _) = _
  rw [if_pos h]
theorem log_lt {a : Int} {n : Nat} (h : a.natAbs < 2 ^ n) : a.natAbs.log2 ≤ n := by
  by_cases h0 : a.natAbs = 0
  · rw [h0, Nat.log2_zero]; exact Nat.zero_le _
  · exact Nat.le_of_lt ((Nat.log2_lt h0).mpr h)
theorem mul_lt {a b : Int} {n m : Nat} (ha : a.natAbs < 2 ^ n) (hb : b.natAbs < 2 ^ m) (h : n + m < 1000000) (μ : Mem) : dMul (.int a) (.int b) μ = .ok (.int (a * b)) μ := by
  have := log_lt ha
  have := log_lt hb
  exact mul_ok (by omega) μ
theorem div_ok (a : Int) {m : Nat} (h1 : 0 < m) (h2 : m < 2 ^ 60) (μ : Mem) : dDiv (.int a) (.int m) μ = .ok (.int (a / m)) μ := by
  show (if _ then _ else _) = _
  have h3 : m.log2 < 60 := (Nat.log2_lt (by omega)).mpr h2
  rw [if_pos ⟨by omega, by rw [Int.natAbs_natCast]; omega⟩]
theorem mod_ok (a : Int) {m : Nat} (h1 : 0 < m) (μ : Mem) : dMod (.int a) (.int m) μ = .ok (.int (a % m)) μ := by
  show (if _ then _ else _) = _
  rw [if_pos (by omega)]
theorem v_eq {ρ : Z.Env} {μ : Mem} {i : Nat} {d : D} (h : ρ[i]? = some (some d)) : fV i ρ μ = .ok d μ := by
  unfold fV Env.at; rw [h]; rfl
theorem get_set {ρ : Z.Env} {i j : Nat} {x : Option D} (h : i ≠ j) : (ρ.set i x)[j]? = ρ[j]? := List.getElem?_set_ne h
theorem get_set' {ρ : Z.Env} {i : Nat} {x : Option D} (h : i < ρ.length) : (ρ.set i x)[i]? = some x := List.getElem?_set_self h
theorem wipe1 (ρ : Z.Env) (i : Nat) (x : Option D) : (wipeD ρ [i]).set i x = ρ.set i x := by simp [wipeD]
/-- the pool's cell: the script, the place in it, what is left of a great number, the last number, how many were drawn -/
def pc (ns : List Int) (a : Nat) (c q : Int) (m : Nat) : Cell := .lst [.lst (ns.map D.int), .int a, .int c, .int q, .int m]
theorem pc_ix {ns : List Int} {a m h : Nat} {c q : Int} {μ : Mem} (e : μ[h]? = some (pc ns a c q m)) (i : Int) : dIx (.obj h) (.int i) μ = R.ofP μ (L2.atI [.lst (ns.map D.int), .int a, .int c, .int q, .int m] i) := ix_obj i e
theorem pc_set {ns : List Int} {a m h : Nat} {c q : Int} {μ : Mem} (e : μ[h]? = some (pc ns a c q m)) (i : Nat) (d : D) (hi : i < 5) : dSetItem (.obj h) (.int i) d μ = some (μ.set h (.lst ([.lst (ns.map D.int), .int a, .int c, .int q, .int m].set i d))) := by
  have e1 : cellL μ (.obj h) = some (h, [.lst (ns.map D.int), .int a, .int c, .int q, .int m]) := by simp [cellL, e, pc]
  have e2 : L2.ixN ([.lst (ns.map D.int), .int a, .int c, .int q, .int m] : List D).length (i : Int) = some i := by
    unfold L2.ixN
    simp
    omega
  unfold dSetItem
  simp only [e1, e2]
theorem setI_eq {o i e : Z.Sem} {ρ : Z.Env} {μ μ1 μ2 μ3 μ' : Mem} {x k c : D} (he : e ρ μ = .ok c μ1) (ho : o ρ μ1 = .ok x μ2) (hi : i ρ μ2 = .ok k μ3) (h : dSetItem x k c μ3 = some μ') : sSetI o i e ρ μ = .next ρ μ' := by
  unfold sSetI
  rw [he, s_ok, ho, s_ok, hi, s_ok, h]
structure Pl (ns : List Int) (h B : Nat) (μ : Mem) : Prop where
  ex : ∃ (a m : Nat) (c q : Int), μ[h]? = some (pc ns a c q m) ∧ m ≤ B ∧ 0 ≤ q ∧ q < 1000000000000000000
structure Same (h : Nat) (μ μ' : Mem) : Prop where
  l : μ'.length = μ.length
  o : ∀ i, i ≠ h → μ'[i]? = μ[i]?
theorem Same.refl (h : Nat) (μ : Mem) : Same h μ μ := ⟨rfl, fun _ _ => rfl⟩
theorem Same.trans {h : Nat} {μ1 μ2 μ3 : Mem} (a : Same h μ1 μ2) (b : Same h μ2 μ3) : Same h μ1 μ3 := ⟨b.l.trans a.l, fun i hi => (b.o i hi).trans (a.o i hi)⟩
theorem Same.set {h : Nat} {μ : Mem} {c : Cell} : Same h μ (μ.set h c) := ⟨by simp, fun i hi => List.getElem?_set_ne hi.symm⟩
theorem Pl.up {ns : List Int} {h B B' : Nat} {μ : Mem} (p : Pl ns h B μ) (l : B ≤ B') : Pl ns h B' μ := by
  obtain ⟨a, m, c, q, e, k, r⟩ := p.ex
  exact ⟨a, m, c, q, e, by omega, r⟩
theorem set_at {μ : Mem} {h : Nat} {c d : Cell} (e : μ[h]? = some c) : (μ.set h d)[h]? = some d := List.getElem?_set_self (List.getElem?_eq_some_iff.mp e).1
theorem pow18 (μ : Mem) : dPow (.int 10) (.int 18) μ = .ok (.int 1000000000000000000) μ := by simp [dPow]
noncomputable def bD2 : SemS := (sSeq (sSetI (fV 0) (fC (.int 4)) (fOp2 dAdd (fIx (fV 0) (fC (.int 4))) (fC (.int 1)))) (sSeq (sSet 4 (fOp2 dMod (fBi dInt (fCons (fOp2 dAdd (fOp2 dAdd (fOp2 dMul (fIx (fV 0) (fC (.int 3))) (fC (.int 48271))) (fOp2 dMul (fIx (fV 0) (fC (.int 4))) (fC (.int 69621)))) (fC (.int 7919))) fNil)) (fC (.int 2147483647)))) (sSeq (sSet 4 (fOp2 dMod (fBi dInt (fCons (fOp2 dAdd (fOp2 dMul (fV 4) (fV 4)) (fOp2 dMul (fIx (fV 0) (fC (.int 4))) (fC (.int 40692)))) fNil)) (fC (.int 2147483399)))) (sRet (fOp2 dMod (fBi dInt (fCons (fV 4) fNil)) (fV 1))))))
theorem bD2_ok {ns : List Int} {h B : Nat} {μ : Mem} (p : Pl ns h B μ) (hB : B < 2 ^ 50) {many : Nat} (h1 : 0 < many) (x2 x3 x4 : Option D) :
    ∃ (r : Nat) (μ' : Mem), bD2 [some (.obj h), some (.int many), x2, x3, x4] μ = .ret (.int r) μ' ∧ r < many ∧ Pl ns h (B + 1) μ' ∧ Same h μ μ' := by
  obtain ⟨a, m, c, q, e, hm, q0, q1⟩ := p.ex
  have p2 : (2 : Nat) ^ 50 = 1125899906842624 := by decide
  have p60 : (2 : Nat) ^ 60 = 1152921504606846976 := by decide
  have p31 : (2 : Nat) ^ 31 = 2147483648 := by decide
  have p20 : (2 : Nat) ^ 20 = 1048576 := by decide
  have v0 : ∀ (y2 y3 y4 : Option D) (μ : Mem), fV 0 [some (.obj h), some (.int many), y2, y3, y4] μ = .ok (.obj h) μ := fun _ _ _ _ => v_eq rfl
  have s1 : sSetI (fV 0) (fC (.int 4)) (fOp2 dAdd (fIx (fV 0) (fC (.int 4))) (fC (.int 1))) [some (.obj h), some (.int many), x2, x3, x4] μ = .next [some (.obj h), some (.int many), x2, x3, x4] (μ.set h (pc ns a c q (m + 1))) :=
    setI_eq ((op2_eq (op := dAdd) ((ix_eq (v0 _ _ _ _) c_eq).trans ((pc_ix e 4).trans rfl)) c_eq).trans (Z.add_int μ _ _)) (v0 _ _ _ _) c_eq (pc_set e 4 _ (by decide))
  have e' : (μ.set h (pc ns a c q (m + 1)))[h]? = some (pc ns a c q (m + 1)) := set_at e
  let w : Int := (q * 48271 + ((m + 1 : Nat) : Int) * 69621 + 7919) % ((2147483647 : Nat) : Int)
  have w0 : 0 ≤ w := Int.emod_nonneg _ (by decide)
  have w1 : w < 2147483647 := Int.emod_lt_of_pos _ (by decide)
  have ix3 := fun (y2 y3 y4 : Option D) => (ix_eq (f := fV 0) (g := fC (.int 3)) (v0 y2 y3 y4 (μ.set h (pc ns a c q (m + 1)))) c_eq).trans ((pc_ix e' 3).trans rfl)
  have ix4 := fun (y2 y3 y4 : Option D) => (ix_eq (f := fV 0) (g := fC (.int 4)) (v0 y2 y3 y4 (μ.set h (pc ns a c q (m + 1)))) c_eq).trans ((pc_ix e' 4).trans rfl)
  have k1 := (op2_eq (op := dMul) (ix3 x2 x3 x4) (c_eq (d := .int 48271))).trans (mul_lt (n := 60) (m := 20) (by omega) (by decide) (by decide) _)
  have k2 := (op2_eq (op := dMul) (ix4 x2 x3 x4) (c_eq (d := .int 69621))).trans (mul_lt (n := 60) (m := 20) (by omega) (by decide) (by decide) _)
  have k3 := (op2_eq (op := dAdd) ((op2_eq (op := dAdd) k1 k2).trans (Z.add_int _ _ _)) (c_eq (d := .int 7919))).trans (Z.add_int _ _ _)
  have s2 := set_eq (i := 4) ((op2_eq (op := dMod) ((bi_eq (cons1_eq k3)).trans (Z.int_int _ _)) (c_eq (d := .int 2147483647))).trans (mod_ok _ (m := 2147483647) (by decide) _))
  have v4 : ∀ (y2 y3 : Option D) (z : D) (μ : Mem), fV 4 [some (.obj h), some (.int many), y2, y3, some z] μ = .ok z μ := fun _ _ _ _ => v_eq rfl
  have k4 := (op2_eq (op := dMul) (v4 x2 x3 (.int w) (μ.set h (pc ns a c q (m + 1)))) (v4 x2 x3 (.int w) _)).trans (mul_lt (n := 31) (m := 31) (by omega) (by omega) (by decide) _)
  have k5 := (op2_eq (op := dMul) (ix4 x2 x3 (some (.int w))) (c_eq (d := .int 40692))).trans (mul_lt (n := 60) (m := 20) (by omega) (by decide) (by decide) _)
  have s3 := set_eq (i := 4) ((op2_eq (op := dMod) ((bi_eq (cons1_eq ((op2_eq (op := dAdd) k4 k5).trans (Z.add_int _ _ _)))).trans (Z.int_int _ _)) (c_eq (d := .int 2147483399))).trans (mod_ok _ (m := 2147483399) (by decide) _))
  let z : Int := (w * w + ((m + 1 : Nat) : Int) * 40692) % ((2147483399 : Nat) : Int)
  have r0 : 0 ≤ z % many := Int.emod_nonneg _ (by omega)
  have r1 : z % many < many := Int.emod_lt_of_pos _ (by omega)
  refine ⟨(z % many).toNat, μ.set h (pc ns a c q (m + 1)), ?_, by omega, ⟨a, m + 1, c, q, e', by omega, q0, q1⟩, Same.set⟩
  have er : (((z % many).toNat : Nat) : Int) = z % many := by omega
  rw [er]
  exact (seq_nx s1).trans ((seq_nx s2).trans ((seq_nx s3).trans (ret_eq ((op2_eq (op := dMod) ((bi_eq (cons1_eq (v4 x2 x3 (.int z) _))).trans (Z.int_int _ _)) (v_eq rfl)).trans (mod_ok _ h1 _)))))
noncomputable def bD1 : SemS := (sSeq (sSet 3 (fBi dAbs (fCons (fIx (fIx (fV 0) (fC (.int 0))) (fIx (fV 0) (fC (.int 1)))) fNil))) (sSeq (sSetI (fV 0) (fC (.int 1)) (fOp2 dAdd (fIx (fV 0) (fC (.int 1))) (fC (.int 1)))) (sSeq (sIf (Z.tCmp dGe (fV 3) (fOp2 dPow (fC (.int 10)) (fC (.int 18)))) (sSeq (sSetI (fV 0) (fC (.int 2)) (fOp2 dDiv (fV 3) (fV 1))) (sRet (fOp2 dMod (fBi dInt (fCons (fV 3) fNil)) (fV 1)))) sNext) (sSetI (fV 0) (fC (.int 3)) (fV 3)))))
noncomputable def bD0 : SemS := (sSeq (sSet 2 (fOp2 dMod (fBi dInt (fCons (fIx (fV 0) (fC (.int 2))) fNil)) (fV 1))) (sSeq (sSetI (fV 0) (fC (.int 2)) (fOp2 dDiv (fIx (fV 0) (fC (.int 2))) (fV 1))) (sRet (fV 2))))
theorem draw_ok {ns : List Int} {h B : Nat} {μ : Mem} (p : Pl ns h B μ) (hB : B < 2 ^ 50) {many : Nat} (h1 : 0 < many) (h2 : many < 2 ^ 60) :
    ∃ (r : Nat) (μ' : Mem), S__law_draw [.obj h, .int many] μ = .ok (.int r) μ' ∧ r < many ∧ Pl ns h (B + 1) μ' ∧ Same h μ μ' := by
  have p' := p
  obtain ⟨a, m, c, q, e, hm, q0, q1⟩ := p.ex
  have fin : ∀ {r : Nat} {μ' : Mem}, b__law_draw (startD 5 [.obj h, .int many]) μ = .ret (.int r) μ' → Same h μ μ' → S__law_draw [.obj h, .int many] μ = .ok (.int r) μ' := fun {r μ'} hb hs => by
    show cleanD μ (b__law_draw (startD 5 [.obj h, .int many]) μ) = _
    rw [hb]; exact clean_ret' _ hs.l
  have v0 : ∀ (y2 y3 y4 : Option D) (μ : Mem), fV 0 [some (.obj h), some (.int many), y2, y3, y4] μ = .ok (.obj h) μ := fun _ _ _ _ => v_eq rfl
  have v1 : ∀ (y2 y3 y4 : Option D) (μ : Mem), fV 1 [some (.obj h), some (.int many), y2, y3, y4] μ = .ok (.int many) μ := fun _ _ _ _ => v_eq rfl
  have ix : ∀ (i : Int) (d : D) (y2 y3 y4 : Option D), L2.atI [.lst (ns.map D.int), .int a, .int c, .int q, .int m] i = some d → fIx (fV 0) (fC (.int i)) [some (.obj h), some (.int many), y2, y3, y4] μ = .ok d μ := fun i d y2 y3 y4 hd => by
    rw [ix_eq (v0 _ _ _ _) c_eq, pc_ix e i, hd]; rfl
  have t0 : Z.tCmp dGt (fIx (fV 0) (fC (.int 2))) (fC (.int 0)) (startD 5 [.obj h, .int many]) μ = .ok (decide (0 < c)) μ := tc_eq (ix 2 (.int c) none none none rfl) c_eq (Z.gt_int μ _ _)
  by_cases hc : 0 < c
  · rw [decide_eq_true hc] at t0
    have r0 : 0 ≤ c % many := Int.emod_nonneg _ (by omega)
    have r1 : c % many < many := Int.emod_lt_of_pos _ (by omega)
    have s1 := set_eq (i := 2) ((op2_eq (op := dMod) ((bi_eq (cons1_eq (ix 2 (.int c) none none none rfl))).trans (Z.int_int _ _)) (v1 none none none μ)).trans (mod_ok c h1 μ))
    have s2 : sSetI (fV 0) (fC (.int 2)) (fOp2 dDiv (fIx (fV 0) (fC (.int 2))) (fV 1)) [some (.obj h), some (.int many), some (.int (c % many)), none, none] μ = .next _ (μ.set h (pc ns a (c / many) q m)) :=
      setI_eq ((op2_eq (op := dDiv) (ix 2 (.int c) _ none none rfl) (v1 _ none none μ)).trans (div_ok c h1 h2 μ)) (v0 _ _ _ _) c_eq (pc_set e 2 _ (by decide))
    have er : (((c % many).toNat : Nat) : Int) = c % many := by omega
    have body : b__law_draw (startD 5 [.obj h, .int many]) μ = .ret (.int (((c % many).toNat : Nat) : Int)) (μ.set h (pc ns a (c / many) q m)) := by
      rw [er]
      exact seq_ret ((if_t t0).trans ((seq_nx s1).trans ((seq_nx s2).trans (ret_eq (v_eq rfl)))))
    exact ⟨_, _, fin body Same.set, by omega, ⟨a, m, c / many, q, set_at e, by omega, q0, q1⟩, Same.set⟩
  · rw [decide_eq_false hc] at t0
    have t1 := tc_eq (c := dEq) ((op2_eq (op := dMod) ((bi_eq (cons1_eq (ix 4 (.int m) none none none rfl))).trans (Z.int_int _ _)) (c_eq (d := .int 8))).trans (mod_ok (m : Int) (m := 8) (by decide) μ)) (c_eq (d := .int 0)) (dEq_int _ _ μ)
    have t2 := tc_eq (c := dLt) (ix 1 (.int a) none none none rfl) ((bi_eq (cons1_eq (ix 0 (.lst (ns.map D.int)) none none none rfl))).trans (Z.len_lst _ μ)) (Z.lt_int μ _ _)
    have t3 := and_eq t1 t2
    rw [List.length_map] at t3
    cases hk : (decide ((m : Int) % ((8 : Nat) : Int) = 0) && decide ((a : Int) < ns.length)) with
    | false =>
      rw [hk] at t3
      obtain ⟨r, μ', g1, g2, g3, g4⟩ := bD2_ok p' hB h1 none none none
      have body : b__law_draw (startD 5 [.obj h, .int many]) μ = .ret (.int r) μ' := (seq_nx (if_nx t0)).trans ((seq_nx (if_nx t3)).trans g1)
      exact ⟨r, μ', fin body g4, g2, g3, g4⟩
    | true =>
      rw [hk] at t3
      have ha : a < ns.length := by
        rw [Bool.and_eq_true] at hk
        have := of_decide_eq_true hk.2
        omega
      let cell : Int := if ns[a] < 0 then -ns[a] else ns[a]
      have cell0 : 0 ≤ cell := by
        show 0 ≤ if ns[a] < 0 then -ns[a] else ns[a]
        split <;> omega
      have k1 : fBi dAbs (fCons (fIx (fIx (fV 0) (fC (.int 0))) (fIx (fV 0) (fC (.int 1)))) fNil) (startD 5 [.obj h, .int many]) μ = .ok (.int cell) μ := by
        refine (bi_eq (cons1_eq ((ix_eq (ix 0 (.lst (ns.map D.int)) none none none rfl) (ix 1 (.int a) none none none rfl)).trans ?_))).trans (by rfl : dAbs [.int ns[a]] μ = .ok (.int cell) μ)
        rw [Z.ix_lst, atI_nat (x := D.int ns[a]) (by simp [ha])]; rfl
      have s1 := set_eq (i := 3) k1
      have s2 : sSetI (fV 0) (fC (.int 1)) (fOp2 dAdd (fIx (fV 0) (fC (.int 1))) (fC (.int 1))) [some (.obj h), some (.int many), none, some (.int cell), none] μ = .next [some (.obj h), some (.int many), none, some (.int cell), none] (μ.set h (pc ns (a + 1) c q m)) :=
        setI_eq ((op2_eq (op := dAdd) (ix 1 (.int a) none (some (.int cell)) none rfl) c_eq).trans (Z.add_int μ _ _)) (v0 _ _ _ _) c_eq (pc_set e 1 _ (by decide))
      have e2 : (μ.set h (pc ns (a + 1) c q m))[h]? = some (pc ns (a + 1) c q m) := set_at e
      have v3 : ∀ μ, fV 3 [some (.obj h), some (.int many), none, some (.int cell), none] μ = .ok (.int cell) μ := fun _ => v_eq rfl
      have t4 := tc_eq (c := dGe) (v3 (μ.set h (pc ns (a + 1) c q m))) ((op2_eq (op := dPow) (c_eq (d := .int 10)) (c_eq (d := .int 18))).trans (pow18 _)) (Z.ge_int _ _ _)
      by_cases hg : (1000000000000000000 : Int) ≤ cell
      · rw [decide_eq_true hg] at t4
        have s3 : sSetI (fV 0) (fC (.int 2)) (fOp2 dDiv (fV 3) (fV 1)) [some (.obj h), some (.int many), none, some (.int cell), none] (μ.set h (pc ns (a + 1) c q m)) = .next _ ((μ.set h (pc ns (a + 1) c q m)).set h (pc ns (a + 1) (cell / many) q m)) :=
          setI_eq ((op2_eq (op := dDiv) (v3 _) (v1 none _ none _)).trans (div_ok cell h1 h2 _)) (v0 _ _ _ _) c_eq (pc_set e2 2 _ (by decide))
        have r0 : 0 ≤ cell % many := Int.emod_nonneg _ (by omega)
        have r1 : cell % many < many := Int.emod_lt_of_pos _ (by omega)
        have er : (((cell % many).toNat : Nat) : Int) = cell % many := by omega
        have inner : bD1 (startD 5 [.obj h, .int many]) μ = .ret (.int (((cell % many).toNat : Nat) : Int)) ((μ.set h (pc ns (a + 1) c q m)).set h (pc ns (a + 1) (cell / many) q m)) := by
          rw [er]
          exact (seq_nx s1).trans ((seq_nx s2).trans (seq_ret ((if_t t4).trans ((seq_nx s3).trans (ret_eq ((op2_eq (op := dMod) ((bi_eq (cons1_eq (v3 _))).trans (Z.int_int _ _)) (v1 none _ none _)).trans (mod_ok cell h1 _)))))))
        have body : b__law_draw (startD 5 [.obj h, .int many]) μ = .ret (.int (((cell % many).toNat : Nat) : Int)) ((μ.set h (pc ns (a + 1) c q m)).set h (pc ns (a + 1) (cell / many) q m)) := (seq_nx (if_nx t0)).trans (seq_ret ((if_t t3).trans inner))
        exact ⟨_, _, fin body (Same.set.trans Same.set), by omega, ⟨a + 1, m, cell / many, q, set_at e2, by omega, q0, q1⟩, Same.set.trans Same.set⟩
      · rw [decide_eq_false hg] at t4
        have s3 : sSetI (fV 0) (fC (.int 3)) (fV 3) [some (.obj h), some (.int many), none, some (.int cell), none] (μ.set h (pc ns (a + 1) c q m)) = .next [some (.obj h), some (.int many), none, some (.int cell), none] ((μ.set h (pc ns (a + 1) c q m)).set h (pc ns (a + 1) c cell m)) :=
          setI_eq (v3 _) (v0 _ _ _ _) c_eq (pc_set e2 3 _ (by decide))
        have inner : bD1 (startD 5 [.obj h, .int many]) μ = .next [some (.obj h), some (.int many), none, some (.int cell), none] ((μ.set h (pc ns (a + 1) c q m)).set h (pc ns (a + 1) c cell m)) := (seq_nx s1).trans ((seq_nx s2).trans ((seq_nx (if_nx t4)).trans s3))
        have p2 : Pl ns h B ((μ.set h (pc ns (a + 1) c q m)).set h (pc ns (a + 1) c cell m)) := ⟨a + 1, m, c, cell, set_at e2, hm, cell0, by omega⟩
        obtain ⟨r, μ', g1, g2, g3, g4⟩ := bD2_ok p2 hB h1 none (some (.int cell)) none
        have body : b__law_draw (startD 5 [.obj h, .int many]) μ = .ret (.int r) μ' := (seq_nx (if_nx t0)).trans ((seq_nx ((if_t t3).trans inner)).trans g1)
        exact ⟨r, μ', fin body ((Same.set.trans Same.set).trans g4), g2, g3, (Same.set.trans Same.set).trans g4⟩
end K77

namespace K77
open PySem PySem.Spec Z
/-! ### the judge's comparison: a datum is like itself -/
mutual
def smD : Nat → D → Bool
  | _, .non => true
  | _, .bl _ => true
  | _, .int _ => true
  | _, .str _ => true
  | n + 1, .tup ds => decide (ds.length ≤ 1000) && smL n ds
  | n + 1, .lst ds => decide (ds.length ≤ 1000) && smL n ds
  | _, _ => false
def smL : Nat → List D → Bool
  | _, [] => true
  | n, d :: ds => smD n d && smL n ds
end
theorem smL_all (n : Nat) : ∀ ds : List D, smL n ds = ds.all (smD n)
  | [] => by simp [smL]
  | d :: ds => by rw [smL, smL_all n ds, List.all_cons]
theorem smD_flat {n : Nat} {d : D} (h : smD n d = true) : D.fit 9 d = true ∧ d.isT = true ∨ ∃ ds, (d = .tup ds ∨ d = .lst ds) := by
  cases d with
  | tup ds => exact .inr ⟨ds, .inl rfl⟩
  | lst ds => exact .inr ⟨ds, .inr rfl⟩
  | non => exact .inl ⟨rfl, rfl⟩
  | bl b => exact .inl ⟨rfl, rfl⟩
  | int i => exact .inl ⟨rfl, rfl⟩
  | str x => exact .inl ⟨rfl, rfl⟩
  | _ => simp [smD] at h
noncomputable def bSm (S0 : DFn) : SemS := (sSeq (sIf (Z.tOr (Z.tCmp dNe (fIsI .tup (fV 1)) (fIsI .tup (fV 0))) (Z.tCmp dNe (fIsI .lst (fV 1)) (fIsI .lst (fV 0)))) (sRet (fC (.bl false))) sNext) (sSeq (sIf (Z.tCmp dNe (fBi dLen (fCons (fV 0) fNil)) (fBi dLen (fCons (fV 1) fNil))) (sRet (fC (.bl false))) sNext) (sSeq (sFor (iRg1 (fBi dLen (fCons (fV 1) fNil))) (aNm 2) (sIf (Z.tNot (fTru (fCall S0 2 [] (fCons (fIx (fV 0) (fV 2)) (fCons (fIx (fV 1) (fV 2)) fNil))))) (sRet (fC (.bl false))) sNext)) (sRet (fC (.bl true))))))
theorem isi_eq {ρ : Z.Env} {μ : Mem} {e : Z.Sem} {d : D} {t T : Ty} (h : e ρ μ = .ok d μ) (ht : tyOf μ d = some t) : fIsI T e ρ μ = .ok (.bl (t.is T)) μ := by
  unfold fIsI
  rw [h, bind_ok]
  simp only [ht]
theorem isi2_eq {ρ : Z.Env} {μ : Mem} {e : Z.Sem} {d : D} {t T U : Ty} (h : e ρ μ = .ok d μ) (ht : tyOf μ d = some t) : fIsI2 T U e ρ μ = .ok (.bl (t.is T || t.is U)) μ := by
  unfold fIsI2
  rw [h, bind_ok]
  simp only [ht]
theorem bSm_ok {S0 : DFn} {d : D} {ds : List D} {t : Ty} (hd : ∀ μ, tyOf μ d = some t) (hl : ∀ μ, dLen [d] μ = .ok (.int ds.length) μ) (hn : ds.length ≤ 1000) (hix : ∀ (i : Nat) (x : D) (μ : Mem), ds[i]? = some x → dIx d (.int i) μ = .ok x μ) (hS : ∀ x ∈ ds, ∀ μ, S0 [x, x] μ = .ok (.bl true) μ) (x2 : Option D) (μ : Mem) :
    bSm S0 [some d, some d, x2] μ = .ret (.bl true) μ := by
  have v0 : ∀ (x2 : Option D) (μ : Mem), fV 0 [some d, some d, x2] μ = .ok d μ := fun _ _ => v_eq rfl
  have v1 : ∀ (x2 : Option D) (μ : Mem), fV 1 [some d, some d, x2] μ = .ok d μ := fun _ _ => v_eq rfl
  have ne : ∀ b : Bool, dNe (.bl b) (.bl b) μ = some false := fun b => dNe_refl rfl rfl μ
  have t1 := tc_eq (c := dNe) (isi_eq (T := .tup) (v1 x2 μ) (hd μ)) (isi_eq (T := .tup) (v0 x2 μ) (hd μ)) (ne _)
  have t2 := tc_eq (c := dNe) (isi_eq (T := .lst) (v1 x2 μ) (hd μ)) (isi_eq (T := .lst) (v0 x2 μ) (hd μ)) (ne _)
  have t3 := tc_eq (c := dNe) ((bi_eq (cons1_eq (v0 x2 μ))).trans (hl μ)) ((bi_eq (cons1_eq (v1 x2 μ))).trans (hl μ)) (dNe_refl rfl rfl μ)
  obtain ⟨ρ', μ', l1, y, l2, l3, _⟩ := forL_inv (gd := none) (a := aNm 2) (b := sIf (Z.tNot (fTru (fCall S0 2 [] (fCons (fIx (fV 0) (fV 2)) (fCons (fIx (fV 1) (fV 2)) fNil))))) (sRet (fC (.bl false))) sNext) (fun k : Nat => D.int (k : Int)) (fun rest ρ μ' => ∃ y, ρ = [some d, some d, y] ∧ μ' = μ ∧ ∀ k ∈ rest, k < ds.length) (List.range ds.length) (ρ := [some d, some d, x2]) (μ := μ) ⟨x2, rfl, rfl, fun k hk => List.mem_range.mp hk⟩ fun k rest ρ μ' ⟨y, e1, e2, e3⟩ => by
    subst e1; subst e2
    have hk := e3 k List.mem_cons_self
    have gx : ds[k]? = some ds[k] := List.getElem?_eq_getElem hk
    have c := (call_eq (S := S0) (n := 2) (fa := fCons (fIx (fV 0) (fV 2)) (fCons (fIx (fV 1) (fV 2)) fNil)) (cons_eq ((ix_eq (v0 (some (.int (k : Int))) μ') (v_eq rfl)).trans (hix k _ μ' gx)) (cons1_eq ((ix_eq (v1 (some (.int (k : Int))) μ') (v_eq rfl)).trans (hix k _ μ' gx)))) rfl).trans (hS _ (List.getElem_mem hk) μ')
    exact ⟨[some d, some d, some (.int (k : Int))], rfl, _, _, if_nx (not_eq (tru_eq c (tru_bl μ' true))), trivial, _, rfl, rfl, fun j hj => e3 j (List.mem_cons_of_mem _ hj)⟩
  subst l2; subst l3
  exact (seq_nx (if_nx (or_eq t1 t2))).trans ((seq_nx (if_nx t3)).trans ((seq_nx ((for_eq (rg1_ok ((bi_eq (cons1_eq (v1 x2 μ'))).trans (hl μ')) (by omega))).trans l1)).trans (ret_eq c_eq)))
theorem fand_eq {a b : Z.Sem} {ρ : Z.Env} {μ : Mem} {d : D} (ha : a ρ μ = .ok (.bl true) μ) (hb : b ρ μ = .ok d μ) : fAnd a b ρ μ = .ok d μ := by
  unfold fAnd
  rw [ha, bind_ok]
  show (R.ofP μ (some true)).bind _ = _
  rw [ofP_some, bind_ok, if_pos rfl, hb]
theorem same_seq {S0 : DFn} {d : D} {ds : List D} {t : Ty} (hT : t = .tup ∨ t = .lst) (hi : isNon d = false) (hd : ∀ μ, tyOf μ d = some t) (hl : ∀ μ, dLen [d] μ = .ok (.int ds.length) μ) (hn : ds.length ≤ 1000) (hix : ∀ (i : Nat) (x : D) (μ : Mem), ds[i]? = some x → dIx d (.int i) μ = .ok x μ) (hS : ∀ x ∈ ds, ∀ μ, S0 [x, x] μ = .ok (.bl true) μ) (μ : Mem) :
    b__law_same S0 (startD 3 [d, d]) μ = .ret (.bl true) μ := by
  have t0 : Z.tCmp dIs (fV 1) (fC .non) (startD 3 [d, d]) μ = .ok false μ := tc_eq (v_eq rfl) c_eq (by show some (isNon d) = _; rw [hi])
  have t1 := tru_eq (isi2_eq (T := .tup) (U := .lst) (e := fV 1) (ρ := startD 3 [d, d]) (μ := μ) (v_eq rfl) (hd μ)) (tru_bl μ _)
  have e : (t.is .tup || t.is .lst) = true := by rcases hT with rfl | rfl <;> rfl
  rw [e] at t1
  exact (seq_nx (if_nx t0)).trans (seq_ret ((if_t t1).trans (bSm_ok hd hl hn hix hS none μ)))
theorem same_flat {S0 : DFn} (d : D) (h : flatD d = true) (μ : Mem) : b__law_same S0 (startD 3 [d, d]) μ = .ret (.bl true) μ := by
  have v0 : fV 0 (startD 3 [d, d]) μ = .ok d μ := v_eq rfl
  have v1 : fV 1 (startD 3 [d, d]) μ = .ok d μ := v_eq rfl
  have ti : Z.tCmp dIs (fV 1) (fC .non) (startD 3 [d, d]) μ = .ok (isNon d) μ := tc_eq v1 c_eq rfl
  cases d with
  | non => exact seq_ret ((if_t ti).trans (ret_eq (fc_eq v0 c_eq (is_non μ))))
  | bl b =>
    have t1 := tru_eq (isi2_eq (T := .tup) (U := .lst) v1 (t := .bl) rfl) (tru_bl μ _)
    have t2 := tru_eq (isi_eq (T := .bl) v1 (t := .bl) rfl) (tru_bl μ _)
    exact (seq_nx (if_nx ti)).trans ((seq_nx (if_nx t1)).trans (seq_ret ((if_t t2).trans (ret_eq (fand_eq (isi_eq (T := .bl) v0 (t := .bl) rfl) (fc_eq v0 v1 (dEq_refl rfl rfl μ)))))))
  | int i =>
    have t1 := tru_eq (isi2_eq (T := .tup) (U := .lst) v1 (t := .int) rfl) (tru_bl μ _)
    have t2 := tru_eq (isi_eq (T := .bl) v1 (t := .int) rfl) (tru_bl μ _)
    have t3 := tru_eq (isi_eq (T := .int) v1 (t := .int) rfl) (tru_bl μ _)
    have nb : fNot (fTru (fIsI .bl (fV 0))) (startD 3 [.int i, .int i]) μ = .ok (.bl true) μ := by
      unfold fNot
      rw [tru_eq (isi_eq (T := .bl) v0 (t := .int) rfl) (tru_bl μ _)]; rfl
    exact (seq_nx (if_nx ti)).trans ((seq_nx (if_nx t1)).trans ((seq_nx (if_nx t2)).trans (seq_ret ((if_t t3).trans (ret_eq (fand_eq (isi_eq (T := .int) v0 (t := .int) rfl) (fand_eq nb (fc_eq v0 v1 (dEq_refl rfl rfl μ)))))))))
  | str x =>
    have t1 := tru_eq (isi2_eq (T := .tup) (U := .lst) v1 (t := .str) rfl) (tru_bl μ _)
    have t2 := tru_eq (isi_eq (T := .bl) v1 (t := .str) rfl) (tru_bl μ _)
    have t3 := tru_eq (isi_eq (T := .int) v1 (t := .str) rfl) (tru_bl μ _)
    exact (seq_nx (if_nx ti)).trans ((seq_nx (if_nx t1)).trans ((seq_nx (if_nx t2)).trans ((seq_nx (if_nx t3)).trans (ret_eq (fand_eq (isi_eq (T := .str) v0 (t := .str) rfl) (fc_eq v0 v1 (dEq_refl rfl rfl μ)))))))
  | _ => cases h
theorem same_lv : ∀ (n : Nat) (d : D), smD n d = true → ∀ μ : Mem, dfnR 3 b__law_same (n + 1) [d, d] μ = .ok (.bl true) μ := by
  have fin : ∀ (n : Nat) (d : D) (μ : Mem), b__law_same (dfnR 3 b__law_same n) (startD 3 [d, d]) μ = .ret (.bl true) μ → dfnR 3 b__law_same (n + 1) [d, d] μ = .ok (.bl true) μ := fun n d μ h => by
    show cleanD μ (b__law_same (dfnR 3 b__law_same n) (startD 3 [d, d]) μ) = _
    rw [h]; exact clean_ret μ _
  intro n
  induction n with
  | zero =>
    intro d h μ
    refine fin 0 d μ (same_flat d ?_ μ)
    cases d <;> first | rfl | simp [smD] at h
  | succ n ih =>
    intro d h μ
    have all : ∀ ds : List D, smL n ds = true → ∀ x ∈ ds, ∀ μ, dfnR 3 b__law_same (n + 1) [x, x] μ = .ok (.bl true) μ := fun ds hd x hx μ => by
      rw [smL_all, List.all_eq_true] at hd
      exact ih x (hd x hx) μ
    cases d with
    | tup ds =>
      simp only [smD, Bool.and_eq_true, decide_eq_true_eq] at h
      exact fin _ _ μ (same_seq (t := .tup) (.inl rfl) rfl (fun _ => rfl) (fun _ => rfl) h.1 (fun i x μ hx => by rw [ix_tup, atI_nat hx]; rfl) (all ds h.2) μ)
    | lst ds =>
      simp only [smD, Bool.and_eq_true, decide_eq_true_eq] at h
      exact fin _ _ μ (same_seq (t := .lst) (.inr rfl) rfl (fun _ => rfl) (fun _ => rfl) h.1 (fun i x μ hx => by rw [Z.ix_lst, atI_nat hx]; rfl) (all ds h.2) μ)
    | non => exact fin _ _ μ (same_flat _ rfl μ)
    | bl b => exact fin _ _ μ (same_flat _ rfl μ)
    | int i => exact fin _ _ μ (same_flat _ rfl μ)
    | str x => exact fin _ _ μ (same_flat _ rfl μ)
    | _ => simp [smD] at h
theorem same_ok (d : D) (h : smD 7 d = true) (μ : Mem) : S__law_same [d, d] μ = .ok (.bl true) μ := same_lv 7 d h μ
end K77

namespace K77c
open PySem PySem.Spec Z K77
/-! ### the pool as the first cell -/
def pc (ns : List Int) (a : Nat) (c q : Int) (m : Nat) : Cell := .lst [.lst (ns.map D.int), .int a, .int c, .int q, .int m]
structure PC (ns : List Int) (B : Nat) (c : Cell) : Prop where
  ex : ∃ (a m : Nat) (x q : Int), c = pc ns a x q m ∧ m ≤ B ∧ 0 ≤ q ∧ q < 1000000000000000000
theorem PC.up {ns : List Int} {B B' : Nat} {c : Cell} (p : PC ns B c) (l : B ≤ B') : PC ns B' c := by
  obtain ⟨a, m, x, q, e, k, r⟩ := p.ex
  exact ⟨a, m, x, q, e, by omega, r⟩
theorem draw_last {ns : List Int} {B : Nat} (hB : B < 2 ^ 50) {many : Int} (h1 : 0 < many) (h2 : many < 2 ^ 60) (a m : Nat) (x q : Int) (hm : m ≤ B) (hq : 0 ≤ q) (hq' : q < 1000000000000000000) :
    ∃ (r : Nat) (c' : Cell), (r : Int) < many ∧ PC ns (B + 1) c' ∧ ∀ (rest : Mem) (x2 x3 x4 : Option D) (k : SemS), WS (sSeq (sSetI (fV 0) (fC (.int 4)) (fOp2 dAdd (fIx (fV 0) (fC (.int 4))) (fC (.int 1)))) (sSeq (sSeq (sSet 4 (fOp2 dMod (fBi dInt (fCons (fOp2 dAdd (fOp2 dAdd (fOp2 dMul (fIx (fV 0) (fC (.int 3))) (fC (.int 48271))) (fOp2 dMul (fIx (fV 0) (fC (.int 4))) (fC (.int 69621)))) (fC (.int 7919))) fNil)) (fC (.int 2147483647)))) (sSeq (sSet 4 (fOp2 dMod (fBi dInt (fCons (fOp2 dAdd (fOp2 dMul (fV 4) (fV 4)) (fOp2 dMul (fIx (fV 0) (fC (.int 4))) (fC (.int 40692)))) fNil)) (fC (.int 2147483399)))) (sRet (fOp2 dMod (fBi dInt (fCons (fV 4) fNil)) (fV 1))))) k))
      [some (.obj 0), some (.int many), x2, x3, x4] (pc ns a x q m :: rest) (fun z => z = .ret (.int r) (c' :: rest)) := by
  have p50 : (2 : Nat) ^ 50 = 1125899906842624 := by decide
  let w : Int := (q * 48271 + ((m : Int) + 1) * 69621 + 7919) % 2147483647
  have w0 : 0 ≤ w := Int.emod_nonneg _ (by decide)
  have w1 : w < 2147483647 := Int.emod_lt_of_pos _ (by decide)
  let z : Int := (w * w + ((m : Int) + 1) * 40692) % 2147483399
  have r0 : 0 ≤ z % many := Int.emod_nonneg _ (by omega)
  have r1 : z % many < many := Int.emod_lt_of_pos _ (by omega)
  refine ⟨(z % many).toNat, pc ns a x q (m + 1), by omega, ⟨a, m + 1, x, q, rfl, by omega, hq, hq'⟩, fun rest x2 x3 x4 k => ?_⟩
  ((wtm_at "w_pre"); (with_reducible apply WS.setIz); repeat' (first | wtm_at "ev_core")); all_goals ((wtm_at "w_norm"))
  ((wtm_at "w_pre"); (with_reducible apply WS.set); repeat' (first | wtm_at "ev_core")); all_goals ((wtm_at "w_norm"))
  ((wtm_at "w_pre"); (with_reducible apply WS.set); repeat' (first | wtm_at "ev_core")); all_goals ((wtm_at "w_norm"))
  ((wtm_at "w_pre"); (with_reducible apply WS.ret); repeat' (first | wtm_at "ev_core")); (try (with_reducible rfl))
  rw [Int.toNat_of_nonneg r0]; rfl
theorem drawC {ns : List Int} {B : Nat} {c : Cell} (p : PC ns B c) (hB : B < 2 ^ 50) {many : Int} (h1 : 0 < many) (h2 : many < 2 ^ 60) :
    ∃ (r : Nat) (c' : Cell), (r : Int) < many ∧ PC ns (B + 1) c' ∧ ∀ rest : Mem, S__law_draw [.obj 0, .int many] (c :: rest) = .ok (.int r) (c' :: rest) := by
  obtain ⟨a, m, x, q, rfl, hm, q0, q1⟩ := p.ex
  by_cases hx : 0 < x
  · have r0 : 0 ≤ x % many := Int.emod_nonneg _ (by omega)
    have r1 : x % many < many := Int.emod_lt_of_pos _ (by omega)
    refine ⟨(x % many).toNat, pc ns a (x / many) q m, by omega, ⟨a, m, _, q, rfl, by omega, q0, q1⟩, fun rest => ?_⟩
    unfold S__law_draw; (with_reducible apply fn_okM); rotate_left; (with_reducible apply WS.tail); unfold b__law_draw; (wtm_at "w_start")
    · ((wtm_at "w_pre"); (with_reducible apply WS.if_t); repeat' (first | wtm_at "ev_core")); all_goals ((wtm_at "w_norm"))
      · simpa using hx
      ((wtm_at "w_pre"); (with_reducible apply WS.set); repeat' (first | wtm_at "ev_core")); all_goals ((wtm_at "w_norm"))
      ((wtm_at "w_pre"); (with_reducible apply WS.setIz); repeat' (first | wtm_at "ev_core")); all_goals ((wtm_at "w_norm"))
      ((wtm_at "w_pre"); (with_reducible apply WS.ret); repeat' (first | wtm_at "ev_core")); (try (with_reducible rfl))
      rw [Int.toNat_of_nonneg r0]; rfl
    · simp
  have hc : ∀ rest : Mem, WS b__law_draw [some (.obj 0), some (.int many), none, none, none] (pc ns a x q m :: rest) = WS b__law_draw [some (.obj 0), some (.int many), none, none, none] (pc ns a x q m :: rest) := fun _ => rfl
  by_cases ha : decide ((m : Int) % 8 = 0) && decide ((a : Int) < ((ns.map D.int).length : Nat))
  · simp only [Bool.and_eq_true, decide_eq_true_eq, List.length_map] at ha
    have hal : a < ns.length := by omega
    have hn : (ns.map D.int)[a]? = some (.int (ns[a])) := by rw [List.getElem?_map, List.getElem?_eq_getElem hal]; rfl
    generalize ns[a] = v at hn
    have v0 : 0 ≤ (if v < 0 then -v else v) := by split <;> omega
    by_cases hv : 10 ^ 18 ≤ (if v < 0 then -v else v)
    · have r0 : 0 ≤ (if v < 0 then -v else v) % many := Int.emod_nonneg _ (by omega)
      have r1 : (if v < 0 then -v else v) % many < many := Int.emod_lt_of_pos _ (by omega)
      refine ⟨((if v < 0 then -v else v) % many).toNat, pc ns (a + 1) ((if v < 0 then -v else v) / many) q m, by omega, ⟨a + 1, m, _, q, rfl, by omega, q0, q1⟩, fun rest => ?_⟩
      unfold S__law_draw; (with_reducible apply fn_okM); rotate_left; (with_reducible apply WS.tail); unfold b__law_draw; (wtm_at "w_start")
      · ((wtm_at "w_pre"); (with_reducible apply WS.if_f); repeat' (first | wtm_at "ev_core")); all_goals ((wtm_at "w_norm"))
        · simpa using hx
        ((wtm_at "w_pre"); (with_reducible apply WS.if_t); repeat' (first | (with_reducible apply lf_ix hn) | wtm_at "ev_core")); all_goals ((wtm_at "w_norm"))
        · simp only [Bool.and_eq_true, decide_eq_true_eq, List.length_map]; omega
        ((wtm_at "w_pre"); (with_reducible apply WS.set); repeat' (first | (with_reducible apply lf_ix hn) | wtm_at "ev_core")); all_goals ((wtm_at "w_norm"))
        ((wtm_at "w_pre"); (with_reducible apply WS.setIz); repeat' (first | wtm_at "ev_core")); all_goals ((wtm_at "w_norm"))
        ((wtm_at "w_pre"); (with_reducible apply WS.if_t); repeat' (first | wtm_at "ev_core")); all_goals ((wtm_at "w_norm"))
        · simpa using hv
        ((wtm_at "w_pre"); (with_reducible apply WS.setIz); repeat' (first | wtm_at "ev_core")); all_goals ((wtm_at "w_norm"))
        ((wtm_at "w_pre"); (with_reducible apply WS.ret); repeat' (first | wtm_at "ev_core")); (try (with_reducible rfl))
        rw [Int.toNat_of_nonneg r0]; rfl
      · simp
    · obtain ⟨r, c', g1, g2, g3⟩ := draw_last (ns := ns) hB h1 h2 (a + 1) m x (if v < 0 then -v else v) hm v0 (by omega)
      refine ⟨r, c', g1, g2, fun rest => ?_⟩
      unfold S__law_draw; (with_reducible apply fn_okM); rotate_left; (with_reducible apply WS.tail); unfold b__law_draw; (wtm_at "w_start")
      · ((wtm_at "w_pre"); (with_reducible apply WS.if_f); repeat' (first | wtm_at "ev_core")); all_goals ((wtm_at "w_norm"))
        · simpa using hx
        ((wtm_at "w_pre"); (with_reducible apply WS.if_t); repeat' (first | (with_reducible apply lf_ix hn) | wtm_at "ev_core")); all_goals ((wtm_at "w_norm"))
        · simp only [Bool.and_eq_true, decide_eq_true_eq, List.length_map]; omega
        ((wtm_at "w_pre"); (with_reducible apply WS.set); repeat' (first | (with_reducible apply lf_ix hn) | wtm_at "ev_core")); all_goals ((wtm_at "w_norm"))
        ((wtm_at "w_pre"); (with_reducible apply WS.setIz); repeat' (first | wtm_at "ev_core")); all_goals ((wtm_at "w_norm"))
        ((wtm_at "w_pre"); (with_reducible apply WS.if_f); repeat' (first | wtm_at "ev_core")); all_goals ((wtm_at "w_norm"))
        · simpa using hv
        ((wtm_at "w_pre"); (with_reducible apply WS.setIz); repeat' (first | wtm_at "ev_core")); all_goals ((wtm_at "w_norm"))
        ((wtm_at "w_pre"))
        exact g3 rest _ _ _ _
      · rfl
  · obtain ⟨r, c', g1, g2, g3⟩ := draw_last (ns := ns) hB h1 h2 a m x q hm q0 q1
    refine ⟨r, c', g1, g2, fun rest => ?_⟩
    unfold S__law_draw; (with_reducible apply fn_okM); rotate_left; (with_reducible apply WS.tail); unfold b__law_draw; (wtm_at "w_start")
    · ((wtm_at "w_pre"); (with_reducible apply WS.if_f); repeat' (first | wtm_at "ev_core")); all_goals ((wtm_at "w_norm"))
      · simpa using hx
      ((wtm_at "w_pre"); (with_reducible apply WS.if_f); repeat' (first | wtm_at "ev_core")); all_goals ((wtm_at "w_norm"))
      · simpa using ha
      ((wtm_at "w_pre"))
      exact g3 rest _ _ _ _
    · rfl
/-- draws in a row -/
theorem drawsC {ns : List Int} {B : Nat} {c : Cell} (p : PC ns B c) {n : Nat} (hB : B + n < 2 ^ 50) (hn : n ≤ 1000) {many : Int} (h1 : 0 < many) (h2 : many < 2 ^ 60) :
    ∃ (rs : List Nat) (c' : Cell), rs.length = n ∧ (∀ r ∈ rs, (r : Int) < many) ∧ PC ns (B + n) c' ∧ ∀ (rest : Mem) (ρ : Z.Env) (i j : Nat) (f g : Z.Sem), f ρ (c :: rest) = .ok (.int n) (c :: rest) → (∀ ρ' μ, g ρ' μ = .ok (.int many) μ) → ρ[j]? = some (some (.obj 0)) → i ≠ j →
      fLc (iRg1 f) (aNm i) tYes (fCall S__law_draw 2 [] (fCons (fV j) (fCons g fNil))) [i] ρ (c :: rest) = .ok (rs.map fun (r : Nat) => .int (r : Int)) (c' :: rest) := by
  have key : ∀ (xs : List Nat) (B : Nat) (c : Cell), PC ns B c → B + xs.length < 2 ^ 50 → ∃ (rs : List Nat) (c' : Cell), rs.length = xs.length ∧ (∀ r ∈ rs, (r : Int) < many) ∧ PC ns (B + xs.length) c' ∧ ∀ (rest : Mem) (ρ : Z.Env) (i j : Nat) (g : Z.Sem), (∀ ρ' μ, g ρ' μ = .ok (.int many) μ) → ρ[j]? = some (some (.obj 0)) → i ≠ j →
      lcL none (aNm i) tYes (fCall S__law_draw 2 [] (fCons (fV j) (fCons g fNil))) (wipeD ρ [i]) (xs.map fun (k : Nat) => D.int (k : Int)) (c :: rest) = .ok (rs.map fun (r : Nat) => .int (r : Int)) (c' :: rest) := by
    intro xs
    induction xs with
    | nil => exact fun B c p _ => ⟨[], c, rfl, fun r h => absurd h (by simp), p, fun rest ρ i j g _ _ _ => rfl⟩
    | cons x xs ih =>
      intro B c p hB
      rw [List.length_cons] at hB
      obtain ⟨r, c1, g1, g2, g3⟩ := drawC p (by omega) h1 h2
      obtain ⟨rs, c2, k1, k2, k3, k4⟩ := ih (B + 1) c1 g2 (by omega)
      refine ⟨r :: rs, c2, by simp [k1], fun y hy => ?_, k3.up (by simp; omega), fun rest ρ i j g hg hj hij => ?_⟩
      · rcases List.mem_cons.mp hy with rfl | hy
        · exact g1
        · exact k2 y hy
      · have e1 : fCall S__law_draw 2 [] (fCons (fV j) (fCons g fNil)) ((wipeD ρ [i]).set i (some (.int (x : Int)))) (c :: rest) = .ok (.int r) (c1 :: rest) := by
          refine ev_call0 (ds := [.obj 0, .int many]) (ev_cons (ev_v ?_) (ev_cons (hg _ _) ev_nil)) rfl (g3 rest)
          simp only [wipeD, List.set_set]
          rw [List.getElem?_set_ne hij]; exact hj
        simp only [List.map_cons, lcL, aNm, tYes, R.bindB, if_true, e1, lcG]
        rw [if_pos (show Grd.ok none (c1 :: rest) from trivial), k4 rest ρ i j g hg hj hij]
  obtain ⟨rs, c', k1, k2, k3, k4⟩ := key (List.range n) B c p (by simpa using hB)
  rw [List.length_range] at k1 k3
  refine ⟨rs, c', k1, k2, k3, fun rest ρ i j f g hf hg hj hij => ?_⟩
  unfold fLc
  rw [rg1_ok hf (by omega), bind_ok, if_pos (by simp only [List.length_map, List.length_range]; exact sl1000 hn)]
  exact k4 rest ρ i j g hg hj hij
/-- draws in a row, of a number that is drawn as well -/
theorem drawsM {ns : List Int} {B : Nat} {c : Cell} (p : PC ns B c) {n : Nat} (hB : B + n < 2 ^ 50) (hn : n ≤ 1000) {many : Int} (h1 : 0 < many) (h2 : many < 2 ^ 60) :
    ∃ (rs : List Nat) (c' : Cell), rs.length = n ∧ (∀ r ∈ rs, (r : Int) < many) ∧ PC ns (B + n) c' ∧ ∀ (rest μ0 : Mem) (ρ : Z.Env) (i j : Nat) (f g : Z.Sem), f ρ μ0 = .ok (.int n) (c :: rest) → (∀ (d : D) (μ : Mem), g ((wipeD ρ [i]).set i (some d)) μ = .ok (.int many) μ) → ρ[j]? = some (some (.obj 0)) → i ≠ j →
      fLc (iRg1 f) (aNm i) tYes (fCall S__law_draw 2 [] (fCons (fV j) (fCons g fNil))) [i] ρ μ0 = .ok (rs.map fun (r : Nat) => .int (r : Int)) (c' :: rest) := by
  have key : ∀ (xs : List Nat) (B : Nat) (c : Cell), PC ns B c → B + xs.length < 2 ^ 50 → ∃ (rs : List Nat) (c' : Cell), rs.length = xs.length ∧ (∀ r ∈ rs, (r : Int) < many) ∧ PC ns (B + xs.length) c' ∧ ∀ (rest : Mem) (ρ : Z.Env) (i j : Nat) (g : Z.Sem), (∀ (d : D) (μ : Mem), g ((wipeD ρ [i]).set i (some d)) μ = .ok (.int many) μ) → ρ[j]? = some (some (.obj 0)) → i ≠ j →
      lcL none (aNm i) tYes (fCall S__law_draw 2 [] (fCons (fV j) (fCons g fNil))) (wipeD ρ [i]) (xs.map fun (k : Nat) => D.int (k : Int)) (c :: rest) = .ok (rs.map fun (r : Nat) => .int (r : Int)) (c' :: rest) := by
    intro xs
    induction xs with
    | nil => exact fun B c p _ => ⟨[], c, rfl, fun r h => absurd h (by simp), p, fun rest ρ i j g _ _ _ => rfl⟩
    | cons x xs ih =>
      intro B c p hB
      rw [List.length_cons] at hB
      obtain ⟨r, c1, g1, g2, g3⟩ := drawC p (by omega) h1 h2
      obtain ⟨rs, c2, k1, k2, k3, k4⟩ := ih (B + 1) c1 g2 (by omega)
      refine ⟨r :: rs, c2, by simp [k1], fun y hy => ?_, k3.up (by simp; omega), fun rest ρ i j g hg hj hij => ?_⟩
      · rcases List.mem_cons.mp hy with rfl | hy
        · exact g1
        · exact k2 y hy
      · have e1 : fCall S__law_draw 2 [] (fCons (fV j) (fCons g fNil)) ((wipeD ρ [i]).set i (some (.int (x : Int)))) (c :: rest) = .ok (.int r) (c1 :: rest) := by
          refine ev_call0 (ds := [.obj 0, .int many]) (ev_cons (ev_v ?_) (ev_cons (hg _ _) ev_nil)) rfl (g3 rest)
          simp only [wipeD, List.set_set]
          rw [List.getElem?_set_ne hij]; exact hj
        simp only [List.map_cons, lcL, aNm, tYes, R.bindB, if_true, e1, lcG]
        rw [if_pos (show Grd.ok none (c1 :: rest) from trivial), k4 rest ρ i j g hg hj hij]
  obtain ⟨rs, c', k1, k2, k3, k4⟩ := key (List.range n) B c p (by simpa using hB)
  rw [List.length_range] at k1 k3
  refine ⟨rs, c', k1, k2, k3, fun rest μ0 ρ i j f g hf hg hj hij => ?_⟩
  unfold fLc
  rw [rg1_ok hf (by omega), bind_ok, if_pos (by simp only [List.length_map, List.length_range]; exact sl1000 hn)]
  exact k4 rest ρ i j g hg hj hij
theorem pickC {ns : List Int} {B : Nat} {c : Cell} (p : PC ns B c) (hB : B < 2 ^ 50) (ds : List D) (h0 : 0 < ds.length) (hl : ds.length ≤ 1000) :
    ∃ (r : Nat) (c' : Cell) (d : D), ds[r]? = some d ∧ PC ns (B + 1) c' ∧ ∀ rest : Mem, S__law_pick [.obj 0, .lst ds] (c :: rest) = .ok d (c' :: rest) := by
  obtain ⟨r, c', g1, g2, g3⟩ := drawC p hB (many := (ds.length : Int)) (by omega) (by omega)
  have hr : ds[r]? = some ds[r] := List.getElem?_eq_getElem (by omega)
  refine ⟨r, c', _, hr, g2, fun rest => ?_⟩
  unfold S__law_pick; (with_reducible apply fn_okM); rotate_left; (with_reducible apply WS.tail); unfold b__law_pick; (wtm_at "w_start")
  · ((wtm_at "w_pre"); (with_reducible apply WS.ret); repeat' (first | (with_reducible apply g3) | (with_reducible apply lf_ix hr) | wtm_at "ev_core")); (try (with_reducible rfl))
  · rfl
end K77c

namespace K77
open PySem PySem.Spec Z
/-! ### the pool as the first cell -/
theorem pc_below (ns : List Int) (a m : Nat) (x q : Int) (n : Nat) : Cell.below n (K77c.pc ns a x q m) = true := by
  have e3 : D.los n (ns.map D.int) = true := by
    rw [D.los_all, List.all_eq_true]
    intro d hd
    obtain ⟨y, _, rfl⟩ := List.mem_map.mp hd
    rfl
  show D.los n [.lst (ns.map D.int), .int a, .int x, .int q, .int m] = true
  simp [D.los, D.lo, e3]
theorem PC.below {ns : List Int} {B : Nat} {c : Cell} (p : K77c.PC ns B c) (n : Nat) : Cell.below n c = true := by
  obtain ⟨a, m, x, q, rfl, _⟩ := p.ex
  exact pc_below ns a m x q n
theorem PC.noX {ns : List Int} {B : Nat} {c : Cell} (p : K77c.PC ns B c) : c.noX = true := by
  obtain ⟨a, m, x, q, rfl, _⟩ := p.ex
  show D.noXs [.lst (ns.map D.int), .int a, .int x, .int q, .int m] = true
  have e3 : D.noXs (ns.map D.int) = true := noXs_map _ _ fun _ => rfl
  simp [D.noXs, D.noX, e3]
theorem pool_ok (ns : List Int) : S__law_pool [.sq (ns.map D.int)] [] = .ok (.obj 0) [K77c.pc ns 0 0 0 0] := by
  have h : WS b__law_pool (startD 1 [.sq (ns.map D.int)]) [] (fun r => r = .ret (.obj 0) [K77c.pc ns 0 0 0 0]) := by
    (with_reducible apply WS.tail)
    unfold b__law_pool
    ((wtm_at "w_pre"); (with_reducible apply WS.ret); repeat' (first | wtm_at "ev_core")); (try (with_reducible rfl))
    rfl
  unfold S__law_pool dfk
  rw [show b__law_pool (startD 1 [.sq (ns.map D.int)]) [] = _ from h]
  rfl
theorem p0 (ns : List Int) : K77c.PC ns 0 (K77c.pc ns 0 0 0 0) := ⟨0, 0, 0, 0, rfl, Nat.le_refl _, by decide, by decide⟩
end K77

namespace K77
/-! ### places of orders -/
theorem gd_lt {α : Type} {l : List α} {k : Nat} {d : α} (h : k < l.length) : l.getD k d = l[k] := by rw [List.getD_eq_getElem?_getD, List.getElem?_eq_getElem h]; rfl
theorem gd_ge {α : Type} {l : List α} {k : Nat} {d : α} (h : l.length ≤ k) : l.getD k d = d := by rw [List.getD_eq_getElem?_getD, List.getElem?_eq_none h]; rfl
def fac : Nat → Nat
  | 0 => 1
  | n + 1 => fac n * (n + 1)
theorem fac_pos : ∀ n, 0 < fac n
  | 0 => by decide
  | n + 1 => Nat.mul_pos (fac_pos n) (by omega)
def lessN (x : Nat) (l : List Nat) : Nat := (l.filter fun y => decide (y < x)).length
def rankN : List Nat → Nat
  | [] => 0
  | x :: xs => lessN x xs * fac xs.length + rankN xs
def unrankN : Nat → List Nat → Nat → List Nat
  | 0, _, _ => []
  | m + 1, left, p => left.getD (p / fac m) 0 :: unrankN m (left.eraseIdx (p / fac m)) (p % fac m)
theorem less_perm {x : Nat} {l l' : List Nat} (h : l.Perm l') : lessN x l = lessN x l' := (h.filter _).length_eq
theorem less_le (x : Nat) (l : List Nat) : lessN x l ≤ l.length := List.length_filter_le _ _
theorem less_cons (x y : Nat) (l : List Nat) : lessN x (y :: l) = (if y < x then 1 else 0) + lessN x l := by
  unfold lessN
  rw [List.filter_cons]
  by_cases h : y < x
  · rw [if_pos (by simpa using h), if_pos h, List.length_cons]; omega
  · rw [if_neg (by simpa using h), if_neg h]; omega
theorem less_app (x : Nat) (l l' : List Nat) : lessN x (l ++ l') = lessN x l + lessN x l' := by simp [lessN]
theorem rank_lt : ∀ xs : List Nat, rankN xs < fac xs.length
  | [] => by decide
  | x :: xs => by
    have h := rank_lt xs
    have h2 := less_le x xs
    have h3 : lessN x xs * fac xs.length ≤ xs.length * fac xs.length := Nat.mul_le_mul_right _ h2
    show lessN x xs * fac xs.length + rankN xs < fac xs.length * (xs.length + 1)
    rw [Nat.mul_comm (fac xs.length), Nat.succ_mul]; omega
theorem asc_at {x : Nat} : ∀ {l : List Nat}, l.Pairwise (· < ·) → x ∈ l → l[lessN x l]? = some x
  | [], _, h => by simp at h
  | y :: l, p, h => by
    obtain ⟨p1, p2⟩ := List.pairwise_cons.mp p
    rcases List.mem_cons.mp h with rfl | h
    · have : lessN x (x :: l) = 0 := by
        unfold lessN
        rw [List.length_eq_zero_iff, List.filter_eq_nil_iff]
        intro z hz
        rcases List.mem_cons.mp hz with rfl | hz
        · simp
        · have := p1 z hz; simp; omega
      rw [this]; rfl
    · rw [less_cons, if_pos (p1 x h), Nat.add_comm, List.getElem?_cons_succ]
      exact asc_at p2 h
theorem unrank_rank : ∀ (xs left : List Nat), xs.Perm left → left.Pairwise (· < ·) → unrankN xs.length left (rankN xs) = xs
  | [], _, _, _ => rfl
  | x :: xs, left, p, s => by
    have hr := rank_lt xs
    have hm : x ∈ left := p.mem_iff.mp List.mem_cons_self
    have hl : lessN x left = lessN x xs := by
      rw [← less_perm p, less_cons, if_neg (by omega), Nat.zero_add]
    have ha := asc_at s hm
    rw [hl] at ha
    have e1 : (lessN x xs * fac xs.length + rankN xs) / fac xs.length = lessN x xs := by
      rw [Nat.mul_comm, Nat.mul_add_div (fac_pos _), Nat.div_eq_of_lt hr, Nat.add_zero]
    have e2 : (lessN x xs * fac xs.length + rankN xs) % fac xs.length = rankN xs := by
      rw [Nat.mul_comm, Nat.mul_add_mod, Nat.mod_eq_of_lt hr]
    show left.getD ((lessN x xs * fac xs.length + rankN xs) / fac xs.length) 0 :: unrankN xs.length (left.eraseIdx ((lessN x xs * fac xs.length + rankN xs) / fac xs.length)) ((lessN x xs * fac xs.length + rankN xs) % fac xs.length) = x :: xs
    rw [e1, e2, List.getD_eq_getElem?_getD, ha]
    have hk : lessN x xs < left.length := (List.getElem?_eq_some_iff.mp ha).1
    have he : left[lessN x xs] = x := (List.getElem?_eq_some_iff.mp ha).2
    have pe : (x :: left.eraseIdx (lessN x xs)).Perm left := by
      have := List.perm_middle (a := x) (l₁ := left.take (lessN x xs)) (l₂ := left.drop (lessN x xs + 1))
      rw [List.eraseIdx_eq_take_drop_succ]
      refine this.symm.trans ?_
      have e : left.take (lessN x xs) ++ x :: left.drop (lessN x xs + 1) = left := by
        conv => rhs; rw [← List.take_append_drop (lessN x xs) left, List.drop_eq_getElem_cons hk, he]
      rw [e]
    have p2 : xs.Perm (left.eraseIdx (lessN x xs)) := (List.perm_cons x).mp (p.trans pe.symm)
    have s2 : (left.eraseIdx (lessN x xs)).Pairwise (· < ·) := s.sublist (List.eraseIdx_sublist _ _)
    rw [unrank_rank xs _ p2 s2]; rfl
theorem rank_desc : ∀ {l : List Nat}, l.Pairwise (· > ·) → rankN l + 1 = fac l.length
  | [], _ => rfl
  | x :: xs, p => by
    obtain ⟨p1, p2⟩ := List.pairwise_cons.mp p
    have h := rank_desc p2
    have e : lessN x xs = xs.length := by
      unfold lessN
      rw [List.filter_eq_self.mpr]
      intro y hy
      exact decide_eq_true (p1 y hy)
    show lessN x xs * fac xs.length + rankN xs + 1 = fac xs.length * (xs.length + 1)
    rw [e, Nat.mul_comm (fac xs.length), Nat.succ_mul]; omega
theorem rank_asc : ∀ {l : List Nat}, l.Pairwise (· < ·) → rankN l = 0
  | [], _ => rfl
  | x :: xs, p => by
    obtain ⟨p1, p2⟩ := List.pairwise_cons.mp p
    have h := rank_asc p2
    have e : lessN x xs = 0 := by
      unfold lessN
      rw [List.length_eq_zero_iff, List.filter_eq_nil_iff]
      intro y hy
      have := p1 y hy
      simp; omega
    show lessN x xs * fac xs.length + rankN xs = 0
    rw [e, h]; simp
theorem rank_pre : ∀ (pre : List Nat) {l l' : List Nat}, l.Perm l' → rankN (pre ++ l) + rankN l' = rankN (pre ++ l') + rankN l
  | [], l, l', _ => Nat.add_comm _ _
  | x :: pre, l, l', p => by
    have ih := rank_pre pre p
    have e1 : lessN x (pre ++ l) = lessN x (pre ++ l') := less_perm (p.append_left pre)
    have e2 : (pre ++ l).length = (pre ++ l').length := (p.append_left pre).length_eq
    show lessN x (pre ++ l) * fac (pre ++ l).length + rankN (pre ++ l) + rankN l' = lessN x (pre ++ l') * fac (pre ++ l').length + rankN (pre ++ l') + rankN l
    rw [e1, e2]; omega
/-- the next order: its place is one more -/
theorem rank_next {pre s1 s2 : List Nat} {x y : Nat} (hd : (s1 ++ y :: s2).Pairwise (· > ·)) (hxy : x < y) (h2 : ∀ z ∈ s2, z < x) : rankN (pre ++ y :: (s1 ++ x :: s2).reverse) = rankN (pre ++ x :: (s1 ++ y :: s2)) + 1 := by
  have hp : (y :: (s1 ++ x :: s2).reverse).Perm (x :: (s1 ++ y :: s2)) := by
    have a : (y :: (s1 ++ x :: s2).reverse).Perm (y :: x :: (s1 ++ s2)) := ((List.reverse_perm _).trans List.perm_middle).cons y
    have b : (x :: (s1 ++ y :: s2)).Perm (x :: y :: (s1 ++ s2)) := List.perm_middle.cons x
    exact a.trans ((List.Perm.swap x y _).trans b.symm)
  have hr := rank_pre pre hp
  obtain ⟨d1, d2, d3⟩ := List.pairwise_append.mp hd
  obtain ⟨d4, d5⟩ := List.pairwise_cons.mp d2
  have dn : (s1 ++ x :: s2).Pairwise (· > ·) := by
    refine List.pairwise_append.mpr ⟨d1, List.pairwise_cons.mpr ⟨h2, d5⟩, fun a ha b hb => ?_⟩
    rcases List.mem_cons.mp hb with rfl | hb
    · have := d3 a ha y List.mem_cons_self; omega
    · exact d3 a ha b (List.mem_cons_of_mem _ hb)
  have asc : (s1 ++ x :: s2).reverse.Pairwise (· < ·) := List.pairwise_reverse.mpr dn
  have l1 : lessN x (s1 ++ y :: s2) = s2.length := by
    rw [less_app, less_cons, if_neg (by omega)]
    have a : lessN x s1 = 0 := by
      unfold lessN
      rw [List.length_eq_zero_iff, List.filter_eq_nil_iff]
      intro z hz
      have := d3 z hz y List.mem_cons_self
      simp; omega
    have b : lessN x s2 = s2.length := by
      unfold lessN
      rw [List.filter_eq_self.mpr fun z hz => decide_eq_true (h2 z hz)]
    omega
  have l2 : lessN y (s1 ++ x :: s2).reverse = s2.length + 1 := by
    rw [less_perm (List.reverse_perm _), less_app, less_cons, if_pos hxy]
    have a : lessN y s1 = 0 := by
      unfold lessN
      rw [List.length_eq_zero_iff, List.filter_eq_nil_iff]
      intro z hz
      have := d3 z hz y List.mem_cons_self
      simp; omega
    have b : lessN y s2 = s2.length := by
      unfold lessN
      rw [List.filter_eq_self.mpr fun z hz => decide_eq_true (d4 z hz)]
    omega
  have e1 : rankN (x :: (s1 ++ y :: s2)) = s2.length * fac (s1 ++ y :: s2).length + rankN (s1 ++ y :: s2) := by
    show lessN x _ * _ + _ = _
    rw [l1]
  have e2 : rankN (y :: (s1 ++ x :: s2).reverse) = (s2.length + 1) * fac (s1 ++ y :: s2).length := by
    show lessN y _ * fac (s1 ++ x :: s2).reverse.length + _ = _
    rw [l2, rank_asc asc, Nat.add_zero, List.length_reverse, List.length_append, List.length_append, List.length_cons, List.length_cons]
  have e3 := rank_desc hd
  rw [e2, e1, Nat.succ_mul] at hr
  omega
/-! ### the next order, as it is worked out -/
def risingN (xs : List Nat) : List Nat := (List.range (xs.length - 1)).filter fun k => decide (xs.getD k 0 < xs.getD (k + 1) 0)
def abovesN (xs : List Nat) (k : Nat) : List Nat := ((List.range (xs.length - (k + 1))).map fun i => k + 1 + i).filter fun j => decide (xs.getD j 0 > xs.getD k 0)
def swapN (xs : List Nat) (i j : Nat) : List Nat := (xs.set i (xs.getD j 0)).set j (xs.getD i 0)
def nextAt (xs : List Nat) (k j : Nat) : List Nat := (swapN xs k j).take (k + 1) ++ ((swapN xs k j).drop (k + 1)).reverse
def nextN (xs : List Nat) : Option (List Nat) := match (risingN xs).getLast? with
  | none => none
  | some k => some (nextAt xs k ((abovesN xs k).getLastD 0))
end K77

namespace K77
theorem last_mem {α : Type} {l : List α} {x : α} (h : l.getLast? = some x) : x ∈ l := List.mem_of_getLast? h
/-- the last of an ascending list is its greatest -/
theorem last_ge {l : List Nat} (p : l.Pairwise (· < ·)) {k : Nat} (h : l.getLast? = some k) : ∀ z ∈ l, z ≤ k := fun z hz => by
  obtain ⟨ys, rfl⟩ : ∃ ys, l = ys ++ [k] := by
    rw [List.getLast?_eq_some_iff] at h; exact h
  rcases List.mem_append.mp hz with hz | hz
  · have := (List.pairwise_append.mp p).2.2 z hz k (by simp); omega
  · rw [List.mem_singleton] at hz; omega
theorem desc_of : ∀ {l : List Nat}, (∀ i, i + 1 < l.length → l.getD i 0 > l.getD (i + 1) 0) → l.Pairwise (· > ·)
  | [], _ => .nil
  | [x], _ => by simp
  | x :: y :: l, h => by
    have h1 : x > y := by have := h 0 (by simp); simpa using this
    have ih := desc_of (l := y :: l) fun i hi => by
      have := h (i + 1) (by simp at hi ⊢; omega)
      simpa using this
    refine .cons (fun z hz => ?_) ih
    rcases List.mem_cons.mp hz with rfl | hz
    · exact h1
    · exact Nat.lt_trans ((List.pairwise_cons.mp ih).1 z hz) h1
theorem rising_asc (xs : List Nat) : (risingN xs).Pairwise (· < ·) := List.pairwise_lt_range.filter _
theorem aboves_asc (xs : List Nat) (k : Nat) : (abovesN xs k).Pairwise (· < ·) := by
  unfold abovesN
  refine List.Pairwise.filter _ ?_
  rw [List.pairwise_map]
  exact List.pairwise_lt_range.imp fun {a b} h => by omega
theorem nodup_ne {xs : List Nat} (hn : xs.Nodup) {i j : Nat} (hi : i < xs.length) (hj : j < xs.length) (h : i ≠ j) : xs.getD i 0 ≠ xs.getD j 0 := by
  rw [gd_lt hi, gd_lt hj]
  rw [List.nodup_iff_pairwise_ne] at hn
  rcases Nat.lt_or_gt_of_ne h with h | h
  · exact List.pairwise_iff_getElem.mp hn i j hi hj h
  · exact (List.pairwise_iff_getElem.mp hn j i hj hi h).symm
theorem next_split {xs : List Nat} (hn : xs.Nodup) {k : Nat} (hk : (risingN xs).getLast? = some k) :
    ∃ j pre x s1 y s2, (abovesN xs k).getLast? = some j ∧ k + 1 < xs.length ∧ k < j ∧ j < xs.length ∧ xs = pre ++ x :: (s1 ++ y :: s2) ∧ nextAt xs k j = pre ++ y :: (s1 ++ x :: s2).reverse ∧ (s1 ++ y :: s2).Pairwise (· > ·) ∧ x < y ∧ ∀ z ∈ s2, z < x := by
  have hm := List.mem_filter.mp (last_mem hk)
  have hk1 : k + 1 < xs.length := by have := List.mem_range.mp hm.1; omega
  have hk2 : xs.getD k 0 < xs.getD (k + 1) 0 := by simpa using hm.2
  have hdesc : ∀ i, k < i → i + 1 < xs.length → xs.getD i 0 > xs.getD (i + 1) 0 := fun i h1 h2 => by
    have h3 : ¬ xs.getD i 0 < xs.getD (i + 1) 0 := fun z => by
      have := last_ge (rising_asc xs) hk i (List.mem_filter.mpr ⟨List.mem_range.mpr (by omega), by simpa using z⟩)
      omega
    have := nodup_ne hn (i := i) (j := i + 1) (by omega) h2 (by omega)
    omega
  have hne : abovesN xs k ≠ [] := by
    intro z
    have : k + 1 ∈ abovesN xs k := List.mem_filter.mpr ⟨List.mem_map.mpr ⟨0, List.mem_range.mpr (by omega), rfl⟩, by simpa using hk2⟩
    rw [z] at this; simp at this
  obtain ⟨j, hj⟩ : ∃ j, (abovesN xs k).getLast? = some j := by
    cases h : (abovesN xs k).getLast? with
    | none => exact absurd (List.getLast?_eq_none_iff.mp h) hne
    | some j => exact ⟨j, rfl⟩
  have hjm := List.mem_filter.mp (last_mem hj)
  obtain ⟨i, hi, hij⟩ := List.mem_map.mp hjm.1
  have hi := List.mem_range.mp hi
  have hj1 : k < j := by omega
  have hj2 : j < xs.length := by omega
  have hj3 : xs.getD k 0 < xs.getD j 0 := by simpa using hjm.2
  have hlast : ∀ q, j < q → q < xs.length → xs.getD q 0 < xs.getD k 0 := fun q h1 h2 => by
    have h3 : ¬ xs.getD q 0 > xs.getD k 0 := fun z => by
      have := last_ge (aboves_asc xs k) hj q (List.mem_filter.mpr ⟨List.mem_map.mpr ⟨q - (k + 1), List.mem_range.mpr (by omega), by omega⟩, by simpa using z⟩)
      omega
    have := nodup_ne hn h2 (j := k) (by omega) (by omega)
    omega
  have hkl : k < xs.length := by omega
  have e1 : xs = xs.take k ++ xs.getD k 0 :: ((xs.drop (k + 1)).take (j - (k + 1)) ++ xs.getD j 0 :: xs.drop (j + 1)) := by
    have a : xs.drop (k + 1) = (xs.drop (k + 1)).take (j - (k + 1)) ++ xs.drop j := by
      conv => lhs; rw [← List.take_append_drop (j - (k + 1)) (xs.drop (k + 1)), List.drop_drop]
      rw [show k + 1 + (j - (k + 1)) = j by omega]
    conv => lhs; rw [← List.take_append_drop k xs, List.drop_eq_getElem_cons hkl, a, List.drop_eq_getElem_cons hj2]
    rw [gd_lt hkl, gd_lt hj2]
  have len1 : (xs.take k).length = k := by rw [List.length_take]; omega
  have len2 : ((xs.drop (k + 1)).take (j - (k + 1))).length = j - (k + 1) := by rw [List.length_take, List.length_drop]; omega
  refine ⟨j, xs.take k, xs.getD k 0, (xs.drop (k + 1)).take (j - (k + 1)), xs.getD j 0, xs.drop (j + 1), hj, hk1, hj1, hj2, e1, ?_, ?_, hj3, ?_⟩
  · generalize hx : xs.getD k 0 = x at *
    generalize hy : xs.getD j 0 = y at *
    generalize xs.take k = pre at *
    generalize (xs.drop (k + 1)).take (j - (k + 1)) = s1 at *
    generalize xs.drop (j + 1) = s2 at *
    unfold nextAt swapN
    rw [hx, hy]
    have a1 : xs.set k y = pre ++ y :: (s1 ++ y :: s2) := by
      rw [e1, List.set_append_right _ _ (by omega), len1, Nat.sub_self]; rfl
    have a2 : (xs.set k y).set j x = pre ++ y :: (s1 ++ x :: s2) := by
      rw [a1, List.set_append_right _ _ (by omega), len1]
      obtain ⟨d, hd⟩ : ∃ d, j - k = d + 1 := ⟨j - k - 1, by omega⟩
      rw [hd, List.set_cons_succ, List.set_append_right _ _ (by omega), show d - s1.length = 0 by omega]; rfl
    rw [a2]
    have a3 : pre ++ y :: (s1 ++ x :: s2) = (pre ++ [y]) ++ (s1 ++ x :: s2) := by simp
    have a4 : (pre ++ [y]).length = k + 1 := by simp [len1]
    rw [a3, List.take_left' a4, List.drop_left' a4]; simp
  · have hs : (xs.drop (k + 1)).take (j - (k + 1)) ++ xs.getD j 0 :: xs.drop (j + 1) = xs.drop (k + 1) := by
      conv => rhs; rw [← List.take_append_drop (j - (k + 1)) (xs.drop (k + 1)), List.drop_drop]
      rw [show k + 1 + (j - (k + 1)) = j by omega, List.drop_eq_getElem_cons hj2, gd_lt hj2]
    rw [hs]
    refine desc_of fun i hi => ?_
    rw [List.length_drop] at hi
    have := hdesc (k + 1 + i) (by omega) (by omega)
    rw [List.getD_eq_getElem?_getD, List.getD_eq_getElem?_getD, List.getElem?_drop, List.getElem?_drop, ← List.getD_eq_getElem?_getD, ← List.getD_eq_getElem?_getD]
    exact this
  · intro z hz
    obtain ⟨i, hi, rfl⟩ := List.mem_iff_getElem.mp hz
    rw [List.length_drop] at hi
    have := hlast (j + 1 + i) (by omega) (by omega)
    rw [gd_lt (show j + 1 + i < xs.length by omega)] at this
    rw [List.getElem_drop]; exact this
theorem lastD_of {l : List Nat} {j d : Nat} (h : l.getLast? = some j) : l.getLastD d = j := by
  rw [List.getLastD_eq_getLast?, h]; rfl
theorem next_rank {xs ys : List Nat} (hn : xs.Nodup) (h : nextN xs = some ys) : rankN ys = rankN xs + 1 ∧ ys.Perm xs := by
  unfold nextN at h
  cases hk : (risingN xs).getLast? with
  | none => rw [hk] at h; cases h
  | some k =>
    rw [hk] at h
    obtain ⟨j, pre, x, s1, y, s2, h1, _, _, _, h2, h3, h4, h5, h6⟩ := next_split hn hk
    have h : some (nextAt xs k ((abovesN xs k).getLastD 0)) = some ys := h
    rw [lastD_of h1] at h
    have h := Option.some.inj h
    rw [← h, h3]
    constructor
    · rw [rank_next h4 h5 h6, ← h2]
    · have hp : (y :: (s1 ++ x :: s2).reverse).Perm (x :: (s1 ++ y :: s2)) := by
        have a : (y :: (s1 ++ x :: s2).reverse).Perm (y :: x :: (s1 ++ s2)) := ((List.reverse_perm _).trans List.perm_middle).cons y
        have b : (x :: (s1 ++ y :: s2)).Perm (x :: y :: (s1 ++ s2)) := List.perm_middle.cons x
        exact a.trans ((List.Perm.swap x y _).trans b.symm)
      rw [h2]
      exact hp.append_left pre
/-! ### all orders of few cards -/
def allP : Nat → List (List Nat)
  | 0 => [[]]
  | k + 1 => (allP k).flatMap fun row => (List.range (row.length + 1)).map fun a => row.take a ++ [k] ++ row.drop a
def lexN (n : Nat) : List (List Nat) := (List.range (fac n)).map (unrankN n (List.range n))
theorem lex_perm : ∀ n, n < 6 → (allP n).isPerm (lexN n) = true := by decide +kernel
theorem lex_ok : ∀ n, n < 6 → ((List.range (fac n)).all fun p => ((lexN n).getD p []).isPerm (List.range n) && decide (rankN ((lexN n).getD p []) = p) && decide (nextN ((lexN n).getD p []) = (lexN n)[p + 1]?)) = true := by decide +kernel
/-! ### riffles -/
def riffleN (n : Nat) : List Nat := (List.range n).map fun p => if p % 2 = 0 then p / 2 else (n + 1) / 2 + p / 2
def dueN (n : Nat) : List Nat := (List.range ((n + 1) / 2)).flatMap fun k => (List.range n).getD k 0 :: ((List.range n).drop ((n + 1) / 2 + k)).take 1
theorem riffle_ok : ∀ n, n < 12 → ((riffleN n).isPerm (List.range n) && decide ((riffleN n).map (fun p => (List.range n).getD p 0) = dueN n)) = true := by decide +kernel
end K77

namespace K77
/-! ### orders done again and again -/
structure Ord (xs : List Nat) (n : Nat) : Prop where
  l : xs.length = n
  lt : ∀ x ∈ xs, x < n
  nd : xs.Nodup
theorem ord_perm {xs : List Nat} {n : Nat} (h : xs.Perm (List.range n)) : Ord xs n := ⟨by rw [h.length_eq, List.length_range], fun x hx => List.mem_range.mp (h.mem_iff.mp hx), h.nodup_iff.mpr List.nodup_range⟩
theorem sub_len {xs ys : List Nat} (hn : xs.Nodup) (h : ∀ x ∈ xs, x ∈ ys) : xs.length ≤ ys.length := by
  induction xs generalizing ys with
  | nil => simp
  | cons x xs ih =>
    obtain ⟨h1, h2⟩ := List.nodup_cons.mp hn
    have hx := h x List.mem_cons_self
    have := ih (ys := ys.erase x) h2 fun y hy => (List.mem_erase_of_ne (by rintro rfl; exact h1 hy)).mpr (h y (List.mem_cons_of_mem _ hy))
    have hp : 0 < ys.length := List.length_pos_of_mem hx
    rw [List.length_erase_of_mem hx] at this
    rw [List.length_cons]; omega
def it (xs : List Nat) : Nat → Nat → Nat
  | 0, x => x
  | k + 1, x => xs.getD (it xs k x) 0
theorem it_add (xs : List Nat) (x j : Nat) : ∀ k, it xs (k + j) x = it xs k (it xs j x)
  | 0 => by rw [Nat.zero_add]; rfl
  | k + 1 => by
    rw [show k + 1 + j = (k + j) + 1 by omega]
    show xs.getD (it xs (k + j) x) 0 = xs.getD (it xs k (it xs j x)) 0
    rw [it_add xs x j k]
section
variable {xs : List Nat} {n : Nat}
theorem Ord.at (h : Ord xs n) {x : Nat} (hx : x < n) : xs.getD x 0 < n := h.lt _ (by rw [gd_lt (by rw [h.l]; exact hx)]; exact List.getElem_mem _)
theorem Ord.inj (h : Ord xs n) {x y : Nat} (hx : x < n) (hy : y < n) (e : xs.getD x 0 = xs.getD y 0) : x = y := by
  rcases Nat.decEq x y with c | c
  · exact absurd e (nodup_ne h.nd (by rw [h.l]; exact hx) (by rw [h.l]; exact hy) c)
  · exact c
theorem it_lt (h : Ord xs n) {x : Nat} (hx : x < n) : ∀ k, it xs k x < n
  | 0 => hx
  | k + 1 => h.at (it_lt h hx k)
theorem it_inj (h : Ord xs n) {x y : Nat} (hx : x < n) (hy : y < n) : ∀ k, it xs k x = it xs k y → x = y
  | 0, e => e
  | k + 1, e => it_inj h hx hy k (h.inj (it_lt h hx k) (it_lt h hy k) e)
/-- some way round leads back -/
theorem it_back (h : Ord xs n) {x : Nat} (hx : x < n) : ∃ j, 1 ≤ j ∧ j ≤ n ∧ it xs j x = x := by
  have hnd : ¬ ((List.range (n + 1)).map fun k => it xs k x).Nodup := fun z => by
    have := sub_len z (ys := List.range n) fun y hy => by
      obtain ⟨k, _, rfl⟩ := List.mem_map.mp hy
      exact List.mem_range.mpr (it_lt h hx k)
    rw [List.length_map, List.length_range, List.length_range] at this
    omega
  rw [List.nodup_iff_pairwise_ne, List.pairwise_map, List.pairwise_iff_getElem] at hnd
  have : ∃ i j, i < j ∧ j ≤ n ∧ it xs i x = it xs j x := by
    by_cases c : ∃ i j, i < j ∧ j ≤ n ∧ it xs i x = it xs j x
    · exact c
    · refine absurd (fun i j hi hj hij => ?_) hnd
      rw [List.length_range] at hi hj
      rw [List.getElem_range, List.getElem_range]
      intro z
      exact c ⟨i, j, hij, by omega, z⟩
  obtain ⟨i, j, h1, h2, h3⟩ := this
  refine ⟨j - i, by omega, by omega, ?_⟩
  have e : it xs j x = it xs i (it xs (j - i) x) := by rw [← it_add]; congr 1; omega
  rw [e] at h3
  exact (it_inj h hx (it_lt h hx (j - i)) i h3).symm
/-- how long its ring is -/
def per (xs : List Nat) (x : Nat) : Nat := (List.range xs.length).findIdx (fun j => it xs (j + 1) x == x) + 1
theorem per_ok (h : Ord xs n) {x : Nat} (hx : x < n) : per xs x ≤ n ∧ it xs (per xs x) x = x ∧ ∀ j, 1 ≤ j → j < per xs x → it xs j x ≠ x := by
  obtain ⟨j, j1, j2, j3⟩ := it_back h hx
  have hlt : (List.range xs.length).findIdx (fun j => it xs (j + 1) x == x) < (List.range xs.length).length := by
    rw [List.findIdx_lt_length]
    refine ⟨j - 1, List.mem_range.mpr (by rw [h.l]; omega), ?_⟩
    rw [show j - 1 + 1 = j by omega, j3]; simp
  have hg := List.findIdx_getElem (w := hlt)
  rw [List.getElem_range] at hg
  rw [List.length_range, h.l] at hlt
  refine ⟨by unfold per; rw [h.l]; omega, by unfold per; simpa using hg, fun i i1 i2 => ?_⟩
  have hn := List.not_of_lt_findIdx (p := fun j => it xs (j + 1) x == x) (xs := List.range xs.length) (i := i - 1) (by unfold per at i2; omega)
  rw [List.getElem_range, show i - 1 + 1 = i by omega] at hn
  simpa using hn
theorem per_pos (xs : List Nat) (x : Nat) : 0 < per xs x := by unfold per; omega
theorem it_mul {p x : Nat} (hp : it xs p x = x) : ∀ q, it xs (q * p) x = x
  | 0 => by rw [Nat.zero_mul]; rfl
  | q + 1 => by rw [Nat.succ_mul, it_add, hp, it_mul hp q]
theorem it_mod {p x : Nat} (hp : it xs p x = x) (k : Nat) : it xs k x = it xs (k % p) x := by
  have e : k = k % p + k / p * p := by rw [Nat.mul_comm]; exact (Nat.mod_add_div k p).symm
  conv => lhs; rw [e, it_add, it_mul hp]
theorem it_fix (h : Ord xs n) {x : Nat} (hx : x < n) (k : Nat) : it xs k x = x ↔ per xs x ∣ k := by
  obtain ⟨p1, p2, p3⟩ := per_ok h hx
  rw [it_mod p2 k]
  constructor
  · intro e
    have hm := Nat.mod_lt k (per_pos xs x)
    by_cases c : k % per xs x = 0
    · exact Nat.dvd_of_mod_eq_zero c
    · exact absurd e (p3 _ (by omega) hm)
  · intro d
    rw [Nat.mod_eq_zero_of_dvd d]; rfl
def ringN (xs : List Nat) (s : Nat) : List Nat := (List.range (per xs s)).map fun i => it xs i s
def addS (xs : List Nat) (ss : List Nat) (s : Nat) : List Nat := if s ∈ ss.flatMap (ringN xs) then ss else ss ++ [s]
def startsN (xs : List Nat) (k : Nat) : List Nat := (List.range k).foldl (addS xs) []
theorem starts_succ (xs : List Nat) (k : Nat) : startsN xs (k + 1) = addS xs (startsN xs k) k := by
  unfold startsN; rw [List.range_succ, List.foldl_append]; rfl
theorem ring_self (xs : List Nat) (s : Nat) : s ∈ ringN xs s := List.mem_map.mpr ⟨0, List.mem_range.mpr (per_pos xs s), rfl⟩
theorem starts_ok (xs : List Nat) : ∀ k, (∀ s ∈ startsN xs k, s < k) ∧ (∀ x < k, x ∈ (startsN xs k).flatMap (ringN xs)) ∧ (startsN xs k).length ≤ k
  | 0 => ⟨fun s hs => absurd hs (by simp [startsN]), fun x hx => by omega, by simp [startsN]⟩
  | k + 1 => by
    obtain ⟨h1, h2, h3⟩ := starts_ok xs k
    rw [starts_succ]
    unfold addS
    by_cases c : k ∈ (startsN xs k).flatMap (ringN xs)
    · rw [if_pos c]
      refine ⟨fun s hs => by have := h1 s hs; omega, fun x hx => ?_, by omega⟩
      by_cases e : x = k
      · rw [e]; exact c
      · exact h2 x (by omega)
    · rw [if_neg c]
      refine ⟨fun s hs => ?_, fun x hx => ?_, by rw [List.length_append, List.length_singleton]; omega⟩
      · rcases List.mem_append.mp hs with hs | hs
        · have := h1 s hs; omega
        · rw [List.mem_singleton] at hs; omega
      · rw [List.flatMap_append]
        by_cases e : x = k
        · rw [e]
          refine List.mem_append_right _ ?_
          simp only [List.flatMap_cons, List.flatMap_nil, List.append_nil]
          exact ring_self xs k
        · exact List.mem_append_left _ (h2 x (by omega))
/-! ### how often until all lie as at first -/
def lcmS (xs : List Nat) (t s : Nat) : Nat := t / Nat.gcd t (per xs s) * per xs s
def timesN (xs : List Nat) (ss : List Nat) : Nat := ss.foldl (lcmS xs) 1
theorem lcm_step (t p k : Nat) : t / Nat.gcd t p * p ∣ k ↔ t ∣ k ∧ p ∣ k := by
  have e : t / Nat.gcd t p * p = Nat.lcm t p := by
    unfold Nat.lcm
    rw [Nat.div_mul_right_comm (Nat.gcd_dvd_left t p)]
  rw [e]
  exact Nat.lcm_dvd_iff
theorem times_dvd (xs : List Nat) (k : Nat) : ∀ (ss : List Nat) (t : Nat), ss.foldl (lcmS xs) t ∣ k ↔ t ∣ k ∧ ∀ s ∈ ss, per xs s ∣ k
  | [], t => by simp
  | s :: ss, t => by
    rw [List.foldl_cons, times_dvd xs k ss, lcmS, lcm_step]
    simp only [List.mem_cons, forall_eq_or_imp]
    exact and_assoc
/-- k times leads back just if the number told divides k -/
theorem all_back (h : Ord xs n) (k : Nat) : (∀ x < n, it xs k x = x) ↔ timesN xs (startsN xs n) ∣ k := by
  obtain ⟨h1, h2, _⟩ := starts_ok xs n
  unfold timesN
  rw [times_dvd]
  constructor
  · intro a
    exact ⟨Nat.one_dvd k, fun s hs => (it_fix h (h1 s hs) k).mp (a s (h1 s hs))⟩
  · rintro ⟨_, a⟩ x hx
    obtain ⟨s, hs, hxs⟩ := List.mem_flatMap.mp (h2 x hx)
    obtain ⟨i, _, rfl⟩ := List.mem_map.mp hxs
    have e := (it_fix h (h1 s hs) k).mpr (a s hs)
    show it xs k (it xs i s) = it xs i s
    rw [← it_add, Nat.add_comm, it_add, e]
theorem times_840 (h : Ord xs n) (hn : n ≤ 8) : timesN xs (startsN xs n) ∣ 840 := by
  obtain ⟨h1, _, _⟩ := starts_ok xs n
  unfold timesN
  rw [times_dvd]
  refine ⟨Nat.one_dvd _, fun s hs => ?_⟩
  have p := (per_ok h (h1 s hs)).1
  have q := per_pos xs s
  generalize per xs s = m at p q
  have : m = 1 ∨ m = 2 ∨ m = 3 ∨ m = 4 ∨ m = 5 ∨ m = 6 ∨ m = 7 ∨ m = 8 := by omega
  rcases this with rfl | rfl | rfl | rfl | rfl | rfl | rfl | rfl <;> decide
theorem times_le (h : Ord xs n) (hn : n ≤ 8) : timesN xs (startsN xs n) ≤ 840 := Nat.le_of_dvd (by decide) (times_840 h hn)
theorem times_pos (h : Ord xs n) (hn : n ≤ 8) : 0 < timesN xs (startsN xs n) := Nat.pos_of_dvd_of_pos (times_840 h hn) (by decide)
theorem part_840 (h : Ord xs n) (hn : n ≤ 8) (ss : List Nat) (hs : ∀ s ∈ ss, s < n) : ss.foldl (lcmS xs) 1 ≤ 840 := by
  refine Nat.le_of_dvd (by decide) ?_
  rw [times_dvd]
  refine ⟨Nat.one_dvd _, fun s hs' => ?_⟩
  have p := (per_ok h (hs s hs')).1
  have q := per_pos xs s
  generalize per xs s = m at p q
  have : m = 1 ∨ m = 2 ∨ m = 3 ∨ m = 4 ∨ m = 5 ∨ m = 6 ∨ m = 7 ∨ m = 8 := by omega
  rcases this with rfl | rfl | rfl | rfl | rfl | rfl | rfl | rfl <;> decide
/-- all cards after k times -/
def haveN (xs : List Nat) (n k : Nat) : List Nat := (List.range n).map (it xs k)
theorem have_back (h : Ord xs n) (k : Nat) : haveN xs n k = List.range n ↔ timesN xs (startsN xs n) ∣ k := by
  rw [← all_back h k]
  unfold haveN
  constructor
  · intro e x hx
    have := congrArg (fun l => l.getD x 0) e
    simpa [hx] using this
  · intro a
    conv => rhs; rw [← List.map_id (List.range n)]
    exact List.map_congr_left fun x hx => a x (List.mem_range.mp hx)
theorem have_mod (h : Ord xs n) (k : Nat) : haveN xs n k = haveN xs n (k % timesN xs (startsN xs n)) := by
  unfold haveN
  refine List.map_congr_left fun x hx => ?_
  have hT := (all_back h (timesN xs (startsN xs n))).mpr (Nat.dvd_refl _) x (List.mem_range.mp hx)
  exact it_mod hT k
theorem have_succ (h : Ord xs n) (k : Nat) : xs.map (fun p => (haveN xs n k).getD p 0) = haveN xs n (k + 1) := by
  unfold haveN
  refine List.ext_getElem? fun i => ?_
  rw [List.getElem?_map, List.getElem?_map]
  by_cases hi : i < n
  · have hx : xs[i]? = some (xs.getD i 0) := by rw [List.getElem?_eq_getElem (by rw [h.l]; exact hi), gd_lt (by rw [h.l]; exact hi)]
    have hlt := h.at hi
    rw [List.getElem?_range hi, hx, Option.map_some, Option.map_some, gd_lt (by simpa using hlt), List.getElem_map, List.getElem_range]
    have e : it xs (k + 1) i = it xs k (it xs 1 i) := it_add xs i 1 k
    rw [e]; rfl
  · rw [List.getElem?_eq_none (by rw [h.l]; omega), List.getElem?_eq_none (by simpa using hi)]; rfl
end
end K77

namespace K77
open PySem PySem.Spec Z
variable {μ : Mem}
abbrev badNum : Ex := ⟨"InvalidNumber", []⟩
abbrev badPap : Ex := ⟨"InvalidPaper", []⟩
theorem WS.par {ρ : Z.Env} {μ μ' : Mem} {i j : Nat} {f : SemA} {d e : D} {k : SemS} {Q : RS → Prop} (h : f ρ μ = .ok [d, e] μ') (r : WS k ((ρ.set i (some d)).set j (some e)) μ' Q) : WS (sSeq (sPar i j f) k) ρ μ Q := by
  unfold WS sSeq sPar at *
  rw [h]
  exact r
/-! ### numbers -/
theorem isnum_ok (v a b : Int) (μ : Mem) : S_is_number [.int v, .int a, .int b] μ = .ok (.bl (decide (a ≤ v) && decide (v ≤ b))) μ := by
  unfold S_is_number; (with_reducible apply fn_ok); (with_reducible apply WS.tail); unfold b_is_number; (wtm_at "w_start")
  ((wtm_at "w_pre"); (with_reducible apply WS.if_f); repeat' (first | wtm_at "ev_core")); all_goals ((wtm_at "w_norm"))
  · rfl
  ((wtm_at "w_pre"); (with_reducible apply WS.ret); repeat' (first | wtm_at "ev_core")); (try (with_reducible rfl))
theorem isnum_bl (v : Bool) (a b : D) (μ : Mem) : S_is_number [.bl v, a, b] μ = .ok (.bl false) μ := by
  unfold S_is_number; (with_reducible apply fn_ok); (with_reducible apply WS.tail); unfold b_is_number; (wtm_at "w_start")
  have e : fTru (fIsI .bl (fV 0)) [some (.bl v), some a, some b] μ = .ok true μ := by
    (repeat' (first | wtm_at "ev_core"))
    all_goals rfl
  ((wtm_at "w_pre"))
  refine WS.if_t (or_t0 e) rfl ?_
  ((wtm_at "w_pre"); (with_reducible apply WS.ret); repeat' (first | wtm_at "ev_core")); (try (with_reducible rfl))
theorem chk_ok {v a b : Int} (h1 : a ≤ v) (h2 : v ≤ b) (μ : Mem) : S_checked_number [.int v, .int a, .int b] μ = .ok (.int v) μ := by
  unfold S_checked_number; (with_reducible apply fn_ok); (with_reducible apply WS.tail); unfold b_checked_number; (wtm_at "w_start")
  ((wtm_at "w_pre"); (with_reducible apply WS.if_f); repeat' (first | (with_reducible apply isnum_ok) | wtm_at "ev_core")); all_goals ((wtm_at "w_norm"))
  · simp [h1, h2]
  ((wtm_at "w_pre"); (with_reducible apply WS.ret); repeat' (first | wtm_at "ev_core")); (try (with_reducible rfl))
theorem add_str {a b : Str} (μ : Mem) (h : a.length + b.length ≤ 1000) : dAdd (.str a) (.str b) μ = .ok (.str (a ++ b)) μ := by
  show (if _ then _ else _) = _
  rw [if_pos (Nat.le_trans h (by rw [sizeLine_eq]; decide))]
theorem chk_exc {d : D} {a b : Int} {sa sb : Str} (hd : ∀ μ, S_is_number [d, .int a, .int b] μ = .ok (.bl false) μ) (ha : ∀ μ, dStr [.int a] μ = .ok (.str sa) μ) (hb : ∀ μ, dStr [.int b] μ = .ok (.str sb) μ) (l1 : sa.length ≤ 10) (l2 : sb.length ≤ 10) (μ : Mem) : S_checked_number [d, .int a, .int b] μ = .exc badNum μ := by
  have c1 : (Str.ofString "no number from ").length ≤ 20 := by decide +kernel
  have c2 : (Str.ofString " to ").length ≤ 20 := by decide +kernel
  unfold S_checked_number; (with_reducible apply fn_exc); (with_reducible apply WS.tail); unfold b_checked_number; (wtm_at "w_start")
  ((wtm_at "w_pre"); (with_reducible apply WS.if_t); repeat' (first | (with_reducible apply hd) | wtm_at "ev_core")); all_goals ((wtm_at "w_norm"))
  · rfl
  ((wtm_at "w_pre"); (with_reducible apply WS.raise); repeat' (first | (with_reducible apply ha) | (with_reducible apply hb) | (with_reducible apply add_str) | wtm_at "ev_core"))
  all_goals first | exact ⟨_, rfl⟩ | omega | (simp only [Str.length_append]; omega)
theorem fn_excJ {N : Nat} {b : SemS} {ds : List D} {μ : Mem} {c : Str} (hb : μ.all (Cell.below μ.length) = true) (h : WS b (startD N ds) μ fun r => ∃ ρ ex, r = .exc ⟨c, []⟩ ρ (μ ++ ex)) : dfn N b ds μ = .exc ⟨c, []⟩ μ := by
  unfold dfn
  obtain ⟨ρ, ex, h⟩ := h
  rw [h]
  unfold cleanD
  simp only
  by_cases hx : (μ ++ ex).length = μ.length
  · have : ex = [] := by
      cases ex with
      | nil => rfl
      | cons a b => rw [List.length_append] at hx; simp at hx
    subst this
    rw [List.append_nil, if_pos rfl]
  · have ht : (μ ++ ex).take μ.length = μ := by simp
    rw [if_neg hx, ht, if_pos ⟨by simp, hb, rfl⟩]
/-! ### orders -/
/-- a list of numbers, as a tree or in a cell -/
structure LS (μ : Mem) (d : D) (xs : List Nat) : Prop where
  len : dLen [d] μ = .ok (.int (xs.length : Nat)) μ
  ix : ∀ k, k < xs.length → dIx d (.int (k : Int)) μ = .ok (.int (xs.getD k 0 : Nat)) μ
  ls : lstD μ d = some (nD xs)
  lw : lstW μ d = some (nD xs)
  wk : ∃ gd, wkD d μ = some ⟨nD xs, gd⟩ ∧ gd.ok μ
theorem ls_tree (xs : List Nat) (μ : Mem) : LS μ (.lst (nD xs)) xs := ⟨by rw [len_lst, List.length_map], fun k hk => ixN hk μ, rfl, rfl, none, rfl, trivial⟩
theorem ls_obj {n : Nat} {xs : List Nat} (h : μ[n]? = some (.lst (nD xs))) : LS μ (.obj n) xs :=
  ⟨by rw [len_obj h, List.length_map], fun k hk => lf_ixo h (by rw [List.getElem?_map, List.getElem?_eq_getElem hk, gd_lt hk]; rfl), by simp [lstD, h], by simp [lstW, h], some (n, .lst (nD xs)), by simp [wkD, h], by simp [Grd.ok, h]⟩
theorem list_ls {d : D} {xs : List Nat} (h : LS μ d xs) : dList [d] μ = .ok (nD xs) μ := by
  have hl := h.ls
  cases d with
  | tup ds => cases hl
  | _ => (unfold dList; simp only [hl])
theorem in_pre (x : Nat) (l : List Nat) (μ : Mem) : dIn (.int (x : Int)) (.lst (nD l)) μ = some (decide (x ∈ l)) := in_nats x l μ
theorem chko_ok {xs : List Nat} {n : Nat} (h : Ord xs n) (hn : n ≤ 40) {d : D} (H : LS μ d xs) : S_checked_order [d] μ = .ok (.obj μ.length) (μ ++ [.lst (nD xs)]) := by
  have hl := h.l
  have hlen := H.len
  have key : WS b_checked_order (startD 2 [d]) μ fun r => r = .ret (.obj μ.length) (μ ++ [.lst (nD xs)]) := by
    (with_reducible apply WS.tail)
    unfold b_checked_order
    wtm_at "w_start"
    ((wtm_at "w_pre"); (with_reducible apply WS.if_f); repeat' (first | (with_reducible exact hlen) | wtm_at "ev_core")); all_goals ((wtm_at "w_norm"))
    · rw [decide_eq_false]; show ¬ _ > (40 : Int); omega
    ((wtm_at "w_pre"))
    refine WS.forA (toD := fun (k : Nat) => D.int (k : Int)) (xs := List.range xs.length) (I := fun j ρ μ' => μ' = μ ∧ ∃ y, ρ = [some d, y]) (rg1_ok (n := xs.length) (by (repeat' (first | (with_reducible exact hlen) | wtm_at "ev_core"))) (by omega)) ⟨rfl, _, rfl⟩ ?_ ?_
    · rintro j x ρ μ' Q' hx hN _ ⟨rfl, y, rfl⟩
      have hj : j < xs.length := by have := (List.getElem?_eq_some_iff.mp hx).1; simpa using this
      have hxj : x = j := by have := (List.getElem?_eq_some_iff.mp hx).2; simpa using this.symm
      subst hxj
      have hix := H.ix x hj
      have hlt := h.at (show x < n by omega)
      have hnot : xs.getD x 0 ∉ xs.take x := by
        intro z
        obtain ⟨i, hi, e⟩ := List.mem_iff_getElem.mp z
        rw [List.length_take] at hi
        rw [List.getElem_take] at e
        exact nodup_ne h.nd (i := i) (j := x) (by omega) hj (by omega) (by rw [gd_lt (show i < xs.length by omega), e])
      have e1 : (decide ((0 : Int) ≤ (xs.getD x 0 : Nat)) && decide (((xs.getD x 0 : Nat) : Int) ≤ ((xs.length : Nat) : Int) - 1)) = true := by
        rw [Bool.and_eq_true, decide_eq_true_eq, decide_eq_true_eq]; omega
      have sl : fSlL (fV 0) oNone (oSome (fV 1)) [some d, some (.int (x : Int))] μ' = .ok (nD (xs.take x)) μ' := by
        unfold nD
        rw [List.map_take]
        exact ev_slT (ev_v rfl) (ev_osome (ev_v rfl)) H.ls
      refine ⟨_, rfl, ?_⟩; (with_reducible apply WS.tail); (wtm_at "w_norm")
      ((wtm_at "w_pre"); (with_reducible apply WS.if_f); repeat' (first | (with_reducible exact hix) | (with_reducible exact hlen) | (with_reducible apply isnum_ok) | (with_reducible exact sl) | (with_reducible apply in_nats) | wtm_at "ev_core")); all_goals ((wtm_at "w_norm"))
      · rw [e1, decide_eq_false hnot]; rfl
      ((wtm_at "w_pre"); with_reducible apply WS.fin)
      exact hN _ _ trivial ⟨rfl, _, rfl⟩
    · rintro ρ μ' ⟨rfl, y, rfl⟩
      ((wtm_at "w_pre"); (with_reducible apply WS.ret); repeat' (first | (with_reducible exact list_ls H) | wtm_at "ev_core")); (try (with_reducible rfl))
  unfold S_checked_order dfk
  rw [show b_checked_order (startD 2 [d]) μ = _ from key]
  show (if μ.length ≤ (μ ++ [Cell.lst (nD xs)]).length then _ else _) = _
  rw [if_pos (by simp)]
theorem shuf_ok {xs cs : List Nat} {n : Nat} (h : Ord xs n) (hn : n ≤ 40) (hc : cs.length = n) (μ : Mem) (hb : μ.all (Cell.below μ.length) = true) : S_shuffled [.lst (nD cs), .lst (nD xs)] μ = .ok (.lst (nD (xs.map fun p => cs.getD p 0))) μ := by
  have hl := h.l
  have c := chko_ok h hn (ls_tree xs μ)
  unfold S_shuffled; (with_reducible apply fn_okJ); rotate_left 2; (with_reducible apply WS.tail); unfold b_shuffled; (wtm_at "w_start")
  · ((wtm_at "w_pre"); (with_reducible apply WS.set); repeat' (first | (with_reducible exact c) | wtm_at "ev_core")); all_goals ((wtm_at "w_norm"))
    have H := ls_obj (μ := μ ++ [.lst (nD xs)]) (n := μ.length) (xs := xs) (by simp)
    have hlen := H.len
    ((wtm_at "w_pre"); (with_reducible apply WS.if_f); repeat' (first | (with_reducible exact hlen) | wtm_at "ev_core")); all_goals ((wtm_at "w_norm"))
    · rw [List.length_map, hc, hl]; simp
    have lc : fLc (iVal (fV 2)) (aNm 3) tYes (fIx (fV 0) (fV 3)) [3] [some (.lst (nD cs)), some (.lst (nD xs)), some (.obj μ.length), none] (μ ++ [.lst (nD xs)]) = .ok (nD (xs.map fun p => cs.getD p 0)) (μ ++ [.lst (nD xs)]) := by
      have e : nD (xs.map fun p => cs.getD p 0) = xs.map fun p => .int (cs.getD p 0 : Nat) := by unfold nD; rw [List.map_map]; rfl
      rw [e]
      obtain ⟨gd, w1, w2⟩ := H.wk
      refine ev_lcY (toD := fun (k : Nat) => D.int (k : Int)) (xs := xs) (gd := gd) (ev_val (ev_v rfl) w1) w2 (by omega) (trn fun p hp => ⟨_, rfl, ?_⟩)
      exact ev_ix (ev_v rfl) (ev_v rfl) (ixN (by rw [hc]; exact h.lt p hp) _)
    ((wtm_at "w_pre"); (with_reducible apply WS.ret); repeat' (first | (with_reducible exact lc) | wtm_at "ev_core")); (try (with_reducible rfl))
    exact ⟨_, rfl⟩
  · exact hb
  · exact (cl_lst (cl_nD _)).1 _
theorem then_ok {xs cs : List Nat} {n : Nat} (h : Ord xs n) (hn : n ≤ 40) (hc : cs.length = n) (μ : Mem) : S__law_then [.lst (nD cs), .lst (nD xs)] μ = .ok (.lst (nD (xs.map fun p => cs.getD p 0))) μ := by
  have hl := h.l
  have ix : ∀ p, p ∈ xs → ∀ μ, dIx (.lst (nD cs)) (.int (p : Int)) μ = .ok (.int (cs.getD p 0 : Nat)) μ := fun p hp μ => ixN (by rw [hc]; exact h.lt p hp) μ
  unfold S__law_then; (with_reducible apply fn_ok); (with_reducible apply WS.tail); unfold b__law_then; (wtm_at "w_start")
  ((wtm_at "w_pre"); (with_reducible apply WS.ret); repeat' (first | (with_reducible apply ix) | wtm_at "ev_core")); (try (with_reducible rfl))
  unfold nD
  rw [List.map_map]; rfl
/-! ### places -/
theorem place_ok {xs : List Nat} {n : Nat} (h : Ord xs n) (hn : n ≤ 20) (μ : Mem) (hb : μ.all (Cell.below μ.length) = true) : S_place_of [.lst (nD xs)] μ = .ok (.int (rankN xs : Nat)) μ := by
  have hl := h.l
  have c := chko_ok h (by omega) (ls_tree xs μ)
  have fac20 : ∀ m, m ≤ 20 → fac m < 2 ^ 62 := fun m hm => by
    have : ∀ m : Fin 21, fac m.val < 2 ^ 62 := by decide +kernel
    exact this ⟨m, by omega⟩
  unfold S_place_of; (with_reducible apply fn_okJ); rotate_left 2; (with_reducible apply WS.tail); unfold b_place_of; (wtm_at "w_start")
  · ((wtm_at "w_pre"); (with_reducible apply WS.set); repeat' (first | (with_reducible exact c) | wtm_at "ev_core")); all_goals ((wtm_at "w_norm"))
    have H := ls_obj (μ := μ ++ [.lst (nD xs)]) (n := μ.length) (xs := xs) (by simp)
    have hlen := H.len
    ((wtm_at "w_pre"); (with_reducible apply WS.if_f); repeat' (first | (with_reducible exact hlen) | wtm_at "ev_core")); all_goals ((wtm_at "w_norm"))
    · rw [decide_eq_false]; omega
    ((wtm_at "w_pre"); (with_reducible apply WS.set); repeat' (first | wtm_at "ev_core")); all_goals ((wtm_at "w_norm"))
    ((wtm_at "w_pre"))
    refine WS.forA (toD := fun (k : Nat) => D.int (k : Int)) (xs := List.range xs.length) (I := fun j ρ μ' => μ' = μ ++ [.lst (nD xs)] ∧ ∃ f y3 y4, f * fac (xs.length - j) + rankN (xs.drop j) = rankN xs ∧ ρ = [some (.lst (nD xs)), some (.obj μ.length), some (.int ((f : Nat) : Int)), y3, y4, none]) (rg1_ok (n := xs.length) (by (repeat' (first | (with_reducible exact hlen) | wtm_at "ev_core"))) (by omega)) ⟨rfl, 0, _, _, by simp, rfl⟩ ?_ ?_
    · rintro j x ρ μ' Q' hx hN _ ⟨rfl, f, y3, y4, hf, rfl⟩
      have hj : j < xs.length := by have := (List.getElem?_eq_some_iff.mp hx).1; simpa using this
      have hxj : x = j := by have := (List.getElem?_eq_some_iff.mp hx).2; simpa using this.symm
      subst hxj
      have hix := H.ix x hj
      have a1 : ∀ μ, dAdd (.int (x : Int)) (.int 1) μ = .ok (.int ((x + 1 : Nat) : Int)) μ := fun μ => add1 x μ
      have sl : fSlL (fV 1) (oSome (fOp2 dAdd (fV 3) (fC (.int 1)))) oNone [some (.lst (nD xs)), some (.obj μ.length), some (.int ((f : Nat) : Int)), some (.int (x : Int)), y4, none] (μ ++ [.lst (nD xs)]) = .ok (nD (xs.drop (x + 1))) (μ ++ [.lst (nD xs)]) := by
        unfold nD
        rw [List.map_drop]
        exact ev_slD (ev_v rfl) (ev_osome (ev_op2 (ev_v rfl) ev_c (a1 _))) H.ls
      have lc : fLc (iVal (fTree (fSlL (fV 1) (oSome (fOp2 dAdd (fV 3) (fC (.int 1)))) oNone))) (aNm 5) (Z.tCmp dLt (fV 5) (fIx (fV 1) (fV 3))) (fV 5) [5] [some (.lst (nD xs)), some (.obj μ.length), some (.int ((f : Nat) : Int)), some (.int (x : Int)), y4, none] (μ ++ [.lst (nD xs)]) = .ok (nD ((xs.drop (x + 1)).filter fun y => decide (y < xs.getD x 0))) (μ ++ [.lst (nD xs)]) := by
        have e : ((xs.drop (x + 1)).filter fun y => decide (y < xs.getD x 0)) = (xs.drop (x + 1)).filter fun (y : Nat) => decide ((y : Int) < ((xs.getD x 0 : Nat) : Int)) := List.filter_congr fun y _ => by rw [Bool.eq_iff_iff, decide_eq_true_eq, decide_eq_true_eq]; omega
        rw [e]
        refine ev_lc (toD := fun (k : Nat) => D.int (k : Int)) (xs := xs.drop (x + 1)) (gd := none) (ev_val (ev_tree sl) (wk_l _ _)) trivial (by rw [List.length_drop]; omega) (trn fun p hp => ⟨_, rfl, ev_tc (ev_v rfl) (ev_ix (ev_v rfl) (ev_v rfl) hix) (Z.lt_int _ _ _), imp_t fun _ => ev_v rfl⟩)
      have ed : xs.drop x = xs.getD x 0 :: xs.drop (x + 1) := by rw [List.drop_eq_getElem_cons hj, gd_lt hj]
      have hr : rankN (xs.drop x) = lessN (xs.getD x 0) (xs.drop (x + 1)) * fac (xs.length - (x + 1)) + rankN (xs.drop (x + 1)) := by
        rw [ed]
        show lessN _ _ * fac (xs.drop (x + 1)).length + _ = _
        rw [List.length_drop]
      have hln : ((nD ((xs.drop (x + 1)).filter fun y => decide (y < xs.getD x 0))).length : Nat) = lessN (xs.getD x 0) (xs.drop (x + 1)) := by rw [List.length_map]; rfl
      obtain ⟨m, hm⟩ : ∃ m, xs.length - x = m + 1 := ⟨xs.length - x - 1, by omega⟩
      have hm2 : xs.length - (x + 1) = m := by omega
      have hfl : f < 2 ^ 62 := by
        have h1 := rank_lt xs
        have h2 := fac20 xs.length (by omega)
        have h3 : f * 1 ≤ f * fac (xs.length - x) := Nat.mul_le_mul_left _ (fac_pos _)
        omega
      have sb : ∀ μ, dSub (.int ((xs.length : Nat) : Int)) (.int (x : Int)) μ = .ok (.int ((m + 1 : Nat) : Int)) μ := fun μ => by rw [Z.sub_int, show ((xs.length : Nat) : Int) - (x : Int) = ((m + 1 : Nat) : Int) by omega]
      have ml : ∀ μ, dMul (.int (f : Int)) (.int ((m + 1 : Nat) : Int)) μ = .ok (.int ((f * (m + 1) : Nat) : Int)) μ := fun μ => by
        rw [lf_mul (by rw [Int.natAbs_natCast]; omega) (by rw [Int.natAbs_natCast]; omega)]; rfl
      have ad : ∀ (a b : Nat) μ, dAdd (.int (a : Int)) (.int (b : Int)) μ = .ok (.int ((a + b : Nat) : Int)) μ := fun a b μ => by rw [Z.add_int]; rfl
      refine ⟨_, rfl, ?_⟩; (with_reducible apply WS.tail); (wtm_at "w_norm")
      ((wtm_at "w_pre"); (with_reducible apply WS.set); repeat' (first | (with_reducible exact lc) | wtm_at "ev_core")); all_goals ((wtm_at "w_norm"))
      rw [hln]
      ((wtm_at "w_pre"); (with_reducible apply WS.set); repeat' (first | (with_reducible exact hlen) | (with_reducible apply sb) | (with_reducible apply ml) | (with_reducible apply ad) | wtm_at "ev_core")); all_goals ((wtm_at "w_norm"))
      ((wtm_at "w_pre"); with_reducible apply WS.fin)
      refine hN _ _ trivial ⟨rfl, f * (m + 1) + lessN (xs.getD x 0) (xs.drop (x + 1)), _, _, ?_, rfl⟩
      rw [hm2]
      rw [hm, hr, hm2] at hf
      rw [← hf, Nat.add_mul]
      have : f * (m + 1) * fac m = f * fac (m + 1) := by
        show f * (m + 1) * fac m = f * (fac m * (m + 1))
        rw [Nat.mul_assoc, Nat.mul_comm (m + 1)]
      rw [this]; omega
    · rintro ρ μ' ⟨rfl, f, y3, y4, hf, rfl⟩
      rw [List.length_range, Nat.sub_self, List.drop_length] at hf
      ((wtm_at "w_pre"); (with_reducible apply WS.ret); repeat' (first | wtm_at "ev_core")); (try (with_reducible rfl))
      refine ⟨[.lst (nD xs)], ?_⟩
      have : f = rankN xs := by
        have e : f * fac 0 + rankN [] = f := by show f * 1 + 0 = f; omega
        omega
      rw [this]
  · exact hb
  · rfl
theorem place_exc (μ : Mem) (hb : μ.all (Cell.below μ.length) = true) : S_place_of [.lst (nD (List.range 21))] μ = .exc badPap μ := by
  have c := chko_ok (n := 21) (ord_perm (List.Perm.refl (List.range 21))) (by omega) (ls_tree (List.range 21) μ)
  unfold S_place_of
  refine fn_excJ hb ?_
  (with_reducible apply WS.tail)
  unfold b_place_of
  wtm_at "w_start"
  ((wtm_at "w_pre"); (with_reducible apply WS.set); repeat' (first | (with_reducible exact c) | wtm_at "ev_core")); all_goals ((wtm_at "w_norm"))
  have hlen := (ls_obj (μ := μ ++ [.lst (nD (List.range 21))]) (n := μ.length) (xs := List.range 21) (by simp)).len
  ((wtm_at "w_pre"); (with_reducible apply WS.if_t); repeat' (first | (with_reducible exact hlen) | wtm_at "ev_core")); all_goals ((wtm_at "w_norm"))
  · rw [List.length_range]; rfl
  ((wtm_at "w_pre"); (with_reducible apply WS.raise); repeat' (first | wtm_at "ev_core"))
  exact ⟨_, [.lst (nD (List.range 21))], rfl⟩
end K77

namespace K77
open PySem PySem.Spec Z K77c
variable {μ : Mem}
theorem ev_popAt {v n : Nat} {ds : List D} {j : Nat} {x : Z.Sem} {ρ : Z.Env} {μ μ1 : Mem} (ho : ρ[v]? = some (some (.obj n))) (h0 : ∃ ds0, μ[n]? = some (.lst ds0)) (hx : x ρ μ = .ok (.int (j : Int)) μ1) (h : μ1[n]? = some (.lst ds)) (hj : j < ds.length) : fMtT "list" dPopAt (fV v) (fCons x fNil) ρ μ = .ok ds[j] (μ1.set n (.lst (ds.eraseIdx j))) := by
  obtain ⟨ds0, h0⟩ := h0
  rw [mt_list (ev_v ho) (lst_obj h0), cons1_eq hx, bind_ok]
  unfold dPopAt
  have e : cellL μ1 (.obj n) = some (n, ds) := by simp [cellL, h]
  have e2 : L2.ixN ds.length (j : Int) = some j := ixN_nn (j := (j : Int)) (by omega) (by simpa using hj) |>.trans (by rw [Int.toNat_natCast])
  simp only [e, e2, List.getElem?_eq_getElem hj]
  rfl
theorem nD_at {l : List Nat} {j : Nat} (h : j < (nD l).length) : (nD l)[j] = .int (l.getD j 0 : Nat) := by
  have hl : j < l.length := by rwa [List.length_map] at h
  rw [gd_lt hl]; simp
theorem nD_erase (l : List Nat) (j : Nat) : (nD l).eraseIdx j = nD (l.eraseIdx j) := eraseIdx_map' _ l j
theorem fac20 : ∀ m, m ≤ 20 → fac m < 2 ^ 62 := fun m hm => by
  have : ∀ m : Fin 21, fac m.val < 2 ^ 62 := by decide +kernel
  exact this ⟨m, by omega⟩
theorem facs_loop {n : Nat} (hn : n ≤ 20) (p : D) (Q : RS → Prop) (K : SemS) (μ : Mem) (hk : ∀ y3, WS K [some (.int (n : Int)), some p, some (.int (fac n : Nat)), y3, none, none, none] μ Q) : WS (sSeq (sFor (iRg2 (fC (.int 1)) (fOp2 dAdd (fV 0) (fC (.int 1)))) (aNm 3) (sSet 2 (fOp2 dMul (fV 2) (fV 3)))) K) [some (.int (n : Int)), some p, some (.int 1), none, none, none, none] μ Q := by
  refine WS.forA (gd := none) (toD := fun (i : Nat) => D.int (1 + (i : Int))) (xs := List.range n) (I := fun j ρ μ' => μ' = μ ∧ ∃ y3, ρ = [some (.int (n : Int)), some p, some (.int (fac j : Nat)), y3, none, none, none]) ?_ ⟨rfl, _, rfl⟩ ?_ ?_
  · have := rg2_ok (a := fOp2 dAdd (fV 0) (fC (.int 1))) (ρ := [some (.int (n : Int)), some p, some (.int 1), none, none, none, none]) (μ := μ) (μ' := μ) (n := n + 1) (ev_op2 (ev_v rfl) ev_c (add1 n μ)) (by omega)
    rw [Nat.add_sub_cancel] at this
    exact this
  · rintro j x ρ μ' Q' hx hN _ ⟨rfl, y3, rfl⟩
    have hj : j < n := by have := (List.getElem?_eq_some_iff.mp hx).1; simpa using this
    have hxj : x = j := by have := (List.getElem?_eq_some_iff.mp hx).2; simpa using this.symm
    subst hxj
    have f1 := fac20 x (by omega)
    have ml : ∀ μ, dMul (.int (fac x : Nat)) (.int (1 + (x : Int))) μ = .ok (.int (fac (x + 1) : Nat)) μ := fun μ => by
      rw [show (1 : Int) + (x : Int) = ((x + 1 : Nat) : Int) by omega, lf_mul (by rw [Int.natAbs_natCast]; omega) (by rw [Int.natAbs_natCast]; omega)]; rfl
    refine ⟨_, rfl, ?_⟩; (with_reducible apply WS.tail); (wtm_at "w_norm")
    ((wtm_at "w_pre"); (with_reducible apply WS.set); repeat' (first | (with_reducible apply ml) | wtm_at "ev_core")); all_goals ((wtm_at "w_norm"))
    ((wtm_at "w_pre"); with_reducible apply WS.fin)
    exact hN _ _ trivial ⟨rfl, _, rfl⟩
  · rintro ρ μ' ⟨rfl, y3, rfl⟩
    rw [List.length_range]
    exact hk y3
theorem at_ok {n p : Nat} (hn : n ≤ 20) (hp : p < fac n) (μ : Mem) (hb : μ.all (Cell.below μ.length) = true) : S_order_at [.int (n : Int), .int (p : Int)] μ = .ok (.lst (nD (unrankN n (List.range n) p))) μ := by
  unfold S_order_at; (with_reducible apply fn_okJ); rotate_left 2; (with_reducible apply WS.tail); unfold b_order_at; (wtm_at "w_start")
  · ((wtm_at "w_pre"); (with_reducible apply WS.drop); repeat' (first | (with_reducible apply chk_ok (show (0 : Int) ≤ (n : Int) by omega) (show (n : Int) ≤ 20 by omega)) | wtm_at "ev_core")); all_goals ((wtm_at "w_norm"))
    ((wtm_at "w_pre"); (with_reducible apply WS.set); repeat' (first | wtm_at "ev_core")); all_goals ((wtm_at "w_norm"))
    ((wtm_at "w_pre"))
    refine facs_loop hn _ _ _ _ fun y3 => ?_
    ((wtm_at "w_pre"); (with_reducible apply WS.if_f); repeat' (first | (with_reducible apply isnum_ok) | wtm_at "ev_core")); all_goals ((wtm_at "w_norm"))
    · have : (decide ((0 : Int) ≤ (p : Int)) && decide ((p : Int) ≤ ((fac n : Nat) : Int) - 1)) = true := by
        rw [Bool.and_eq_true, decide_eq_true_eq, decide_eq_true_eq]; omega
      rw [this]; rfl
    ((wtm_at "w_pre"); (with_reducible apply WS.set); repeat' (first | (with_reducible apply ev_rgL1) | wtm_at "ev_core")); all_goals ((wtm_at "w_norm"))
    ((wtm_at "w_pre"); (with_reducible apply WS.set); repeat' (first | wtm_at "ev_core")); all_goals ((wtm_at "w_norm"))
    ((wtm_at "w_pre"); (with_reducible apply WS.forA (I := fun j ρ μ' => ∃ (p' : Nat) (L F : List Nat) (y3 y6 : Option D), p' < fac (n - j) ∧ L.length = n - j ∧ F.length = j ∧ F ++ unrankN (n - j) L p' = unrankN n (List.range n) p ∧ μ' = μ ++ [.lst (nD L), .lst (nD F)] ∧ ρ = [some (.int (n : Int)), some (.int (p' : Int)), some (.int (fac (n - j) : Nat)), y3, some (.obj μ.length), some (.obj (μ.length + 1)), y6])); repeat' (first | wtm_at "ev_core"))
    · exact ⟨p, List.range n, [], _, _, hp, by simp, rfl, rfl, rfl, rfl⟩
    · rintro j x ρ μ' Q' hx hN _ ⟨p', L, F, y3, y6, hp', hL, hF, hU, rfl, rfl⟩
      have hj : j < n := by have := (List.getElem?_eq_some_iff.mp hx).1; simpa using this
      have hxj : x = j := by have := (List.getElem?_eq_some_iff.mp hx).2; simpa using this.symm
      subst hxj
      obtain ⟨m, hm⟩ : ∃ m, n - x = m + 1 := ⟨n - x - 1, by omega⟩
      have hm2 : n - (x + 1) = m := by omega
      have hN := fun (p' : Nat) (L F : List Nat) y3 y6 (h1 : p' < fac m) (h2 : L.length = m) (h3 : F.length = x + 1) (h4 : F ++ unrankN m L p' = unrankN n (List.range n) p) => hN [some (.int (n : Int)), some (.int (p' : Int)), some (.int (fac m : Nat)), y3, some (.obj μ.length), some (.obj (μ.length + 1)), y6] (μ ++ [.lst (nD L), .lst (nD F)]) trivial ⟨p', L, F, y3, y6, by rw [hm2]; exact h1, by rw [hm2]; exact h2, h3, by rw [hm2]; exact h4, rfl, by rw [hm2]⟩
      rw [hm] at hp' hL hU ⊢
      have fm := fac_pos m
      have f20 := fac20 m (by omega)
      have sb : ∀ μ, dSub (.int (n : Int)) (.int (x : Int)) μ = .ok (.int ((m + 1 : Nat) : Int)) μ := fun μ => by rw [Z.sub_int, show (n : Int) - (x : Int) = ((m + 1 : Nat) : Int) by omega]
      have dv : ∀ μ, dDiv (.int (fac (m + 1) : Nat)) (.int ((m + 1 : Nat) : Int)) μ = .ok (.int (fac m : Nat)) μ := fun μ => by
        rw [lf_div (by omega) (by omega)]
        have : fac (m + 1) / (m + 1) = fac m := by show fac m * (m + 1) / (m + 1) = fac m; exact Nat.mul_div_cancel _ (by omega)
        rw [← this]; rfl
      have dp : ∀ μ, dDiv (.int (p' : Int)) (.int (fac m : Nat)) μ = .ok (.int ((p' / fac m : Nat) : Int)) μ := fun μ => by
        have f60 : fac m < 2 ^ 60 := by
          have : ∀ m : Fin 20, fac m.val < 2 ^ 60 := by decide +kernel
          exact this ⟨m, by omega⟩
        rw [lf_div (by omega) (by omega)]; rfl
      have md : ∀ μ, dMod (.int (p' : Int)) (.int (fac m : Nat)) μ = .ok (.int ((p' % fac m : Nat) : Int)) μ := fun μ => by rw [lf_mod (by omega)]; rfl
      have hq : p' / fac m < L.length := by rw [hL]; exact Nat.div_lt_of_lt_mul hp'
      have pop : fMtT "list" dPopAt (fV 4) (fCons (fOp2 dDiv (fV 1) (fV 2)) fNil) [some (.int (n : Int)), some (.int (p' : Int)), some (.int (fac m : Nat)), y3, some (.obj μ.length), some (.obj (μ.length + 1)), some (.int (x : Int))] (μ ++ [.lst (nD L), .lst (nD F)]) = .ok (.int (L.getD (p' / fac m) 0 : Nat)) (μ ++ [.lst (nD (L.eraseIdx (p' / fac m))), .lst (nD F)]) := by
        have := ev_popAt (v := 4) (n := μ.length) (ds := nD L) (j := p' / fac m) (x := fOp2 dDiv (fV 1) (fV 2)) (ρ := [some (.int (n : Int)), some (.int (p' : Int)), some (.int (fac m : Nat)), y3, some (.obj μ.length), some (.obj (μ.length + 1)), some (.int (x : Int))]) (μ := μ ++ [.lst (nD L), .lst (nD F)]) rfl ⟨nD L, by simp⟩ (ev_op2 (ev_v rfl) (ev_v rfl) (dp _)) (by simp) (by rw [List.length_map]; exact hq)
        rw [this, nD_at, nD_erase, setA0]; rfl
      have hFl : (nD F).length ≤ 1000 := by rw [List.length_map]; omega
      refine ⟨_, rfl, ?_⟩; (with_reducible apply WS.tail); (wtm_at "w_norm")
      ((wtm_at "w_pre"); (with_reducible apply WS.set); repeat' (first | (with_reducible apply sb) | (with_reducible apply dv) | wtm_at "ev_core")); all_goals ((wtm_at "w_norm"))
      ((wtm_at "w_pre"); (with_reducible apply WS.app); repeat' (first | (with_reducible exact pop) | wtm_at "ev_core")); all_goals ((wtm_at "w_norm"))
      ((wtm_at "w_pre"); (with_reducible apply WS.set); repeat' (first | (with_reducible apply md) | wtm_at "ev_core")); all_goals ((wtm_at "w_norm"))
      ((wtm_at "w_pre"); with_reducible apply WS.fin)
      have := hN (p' % fac m) (L.eraseIdx (p' / fac m)) (F ++ [L.getD (p' / fac m) 0]) y3 (some (.int (x : Int))) (Nat.mod_lt _ fm) (by rw [List.length_eraseIdx, if_pos hq]; omega) (by simp [hF]) (by rw [← hU]; simp [unrankN])
      simpa using this
    · rintro ρ μ' ⟨p', L, F, y3, y6, hp', hL, hF, hU, rfl, rfl⟩
      rw [List.length_range, Nat.sub_self] at hU
      have hU : F = unrankN n (List.range n) p := by rw [← hU]; simp [unrankN]
      subst hU
      ((wtm_at "w_pre"); (with_reducible apply WS.ret); repeat' (first | wtm_at "ev_core")); (try (with_reducible rfl))
      refine ⟨[.lst (nD L), .fz (.lst (nD (unrankN n (List.range n) p)))], ?_⟩
      simp [setA]
  · exact hb
  · exact (cl_lst (cl_nD _)).1 _
theorem at_exc {n : Nat} (hn : n ≤ 20) {p : D} (hp : ∀ μ, S_is_number [p, .int 0, .int (((fac n : Nat) : Int) - 1)] μ = .ok (.bl false) μ) (μ : Mem) : S_order_at [.int (n : Int), p] μ = .exc badNum μ := by
  unfold S_order_at; (with_reducible apply fn_exc); (with_reducible apply WS.tail); unfold b_order_at; (wtm_at "w_start")
  ((wtm_at "w_pre"); (with_reducible apply WS.drop); repeat' (first | (with_reducible apply chk_ok (show (0 : Int) ≤ (n : Int) by omega) (show (n : Int) ≤ 20 by omega)) | wtm_at "ev_core")); all_goals ((wtm_at "w_norm"))
  ((wtm_at "w_pre"); (with_reducible apply WS.set); repeat' (first | wtm_at "ev_core")); all_goals ((wtm_at "w_norm"))
  ((wtm_at "w_pre"))
  refine facs_loop hn _ _ _ _ fun y3 => ?_
  ((wtm_at "w_pre"); (with_reducible apply WS.if_t); repeat' (first | (with_reducible apply hp) | wtm_at "ev_core")); all_goals ((wtm_at "w_norm"))
  · rfl
  ((wtm_at "w_pre"); (with_reducible apply WS.raise); repeat' (first | wtm_at "ev_core"))
  exact ⟨_, rfl⟩
theorem at_exc2 (μ : Mem) : S_order_at [.int 21, .int 0] μ = .exc badNum μ := by
  have e : ∀ μ, S_is_number [.int 21, .int 0, .int 20] μ = .ok (.bl false) μ := fun μ => by rw [isnum_ok]; rfl
  have c := chk_exc e (sa := Str.ofString "0") (sb := Str.ofString "20") (fun μ => rfl) (fun μ => rfl) (by decide +kernel) (by decide +kernel) μ
  unfold S_order_at; (with_reducible apply fn_exc); (with_reducible apply WS.tail); unfold b_order_at; (wtm_at "w_start")
  ((wtm_at "w_pre"); (with_reducible apply WS.dropE); repeat' (first | (with_reducible exact c) | wtm_at "ev_core"))
  exact ⟨_, rfl⟩
/-! ### an order drawn -/
theorem order_ok {sc : List Int} {B : Nat} {c : Cell} (p : PC sc B c) {n : Nat} (hB : B + n < 2 ^ 40) (hn : n ≤ 100) : ∃ (xs : List Nat) (c' : Cell), xs.Perm (List.range n) ∧ PC sc (B + n) c' ∧ S__law_order [.obj 0, .int (n : Int)] [c] = .ok (.lst (nD xs)) [c'] := by
  have H : WS b__law_order (startD 5 [.obj 0, .int (n : Int)]) [c] (fun r => ∃ (xs : List Nat) (c' : Cell), xs.Perm (List.range n) ∧ PC sc (B + n) c' ∧ ∃ ex, r = .ret (.lst (nD xs)) ([c'] ++ ex)) := by
    generalize hQ : (fun r => ∃ (xs : List Nat) (c' : Cell), xs.Perm (List.range n) ∧ PC sc (B + n) c' ∧ ∃ ex, r = RS.ret (.lst (nD xs)) ([c'] ++ ex)) = QQ
    (with_reducible apply WS.tail)
    unfold b__law_order
    wtm_at "w_start"
    ((wtm_at "w_pre"); (with_reducible apply WS.set); repeat' (first | (with_reducible apply ev_rgL1) | wtm_at "ev_core")); all_goals ((wtm_at "w_norm"))
    ((wtm_at "w_pre"); (with_reducible apply WS.set); repeat' (first | wtm_at "ev_core")); all_goals ((wtm_at "w_norm"))
    ((wtm_at "w_pre"); (with_reducible apply WS.forA (I := fun j ρ μ' => ∃ (c' : Cell) (L F : List Nat) (y4 : Option D), PC sc (B + j) c' ∧ L.length = n - j ∧ F.length = j ∧ (F ++ L).Perm (List.range n) ∧ μ' = [c', .lst (nD L), .lst (nD F)] ∧ ρ = [some (.obj 0), some (.int (n : Int)), some (.obj 1), some (.obj 2), y4])); repeat' (first | wtm_at "ev_core"))
    · exact ⟨c, List.range n, [], _, p, by simp, rfl, List.Perm.refl _, rfl, rfl⟩
    · rintro j x ρ μ' Q' hx hN _ ⟨c', L, F, y4, pc, hL, hF, hP, rfl, rfl⟩
      have hj : j < n := by have := (List.getElem?_eq_some_iff.mp hx).1; simpa using this
      obtain ⟨r, c2, hr, p2, d2⟩ := drawC pc (by omega) (many := (L.length : Int)) (by omega) (by omega)
      have hr : r < L.length := by omega
      have e2 := d2 [.lst (nD L), .lst (nD F)]
      have ln : dLen [.obj 1] [c', .lst (nD L), .lst (nD F)] = .ok (.int (L.length : Nat)) [c', .lst (nD L), .lst (nD F)] := by
        rw [len_obj (ds := nD L) rfl, List.length_map]
      have pop : fMtT "list" dPopAt (fV 2) (fCons (fCall S__law_draw 2 [] (fCons (fV 0) (fCons (fBi dLen (fCons (fV 2) fNil)) fNil))) fNil) [some (.obj 0), some (.int (n : Int)), some (.obj 1), some (.obj 2), some (.int (x : Int))] [c', .lst (nD L), .lst (nD F)] = .ok (.int (L.getD r 0 : Nat)) [c2, .lst (nD (L.eraseIdx r)), .lst (nD F)] := by
        have := ev_popAt (v := 2) (n := 1) (ds := nD L) (j := r) (x := fCall S__law_draw 2 [] (fCons (fV 0) (fCons (fBi dLen (fCons (fV 2) fNil)) fNil))) (ρ := [some (.obj 0), some (.int (n : Int)), some (.obj 1), some (.obj 2), some (.int (x : Int))]) (μ := [c', .lst (nD L), .lst (nD F)]) (μ1 := [c2, .lst (nD L), .lst (nD F)]) rfl ⟨nD L, rfl⟩ (by (repeat' (first | (with_reducible exact ln) | (with_reducible exact e2) | wtm_at "ev_core"))) rfl (by rw [List.length_map]; exact hr)
        rw [this, nD_at, nD_erase]; rfl
      have hFl : (nD F).length ≤ 1000 := by rw [List.length_map]; omega
      refine ⟨_, rfl, ?_⟩; (with_reducible apply WS.tail); (wtm_at "w_norm")
      ((wtm_at "w_pre"); (with_reducible apply WS.app); repeat' (first | (with_reducible exact pop) | wtm_at "ev_core")); all_goals ((wtm_at "w_norm"))
      ((wtm_at "w_pre"); with_reducible apply WS.fin)
      have hp2 : (F ++ [L.getD r 0] ++ L.eraseIdx r).Perm (F ++ L) := by
        rw [List.append_assoc, List.singleton_append]
        refine List.Perm.append_left F ?_
        have := List.perm_middle (a := L.getD r 0) (l₁ := L.take r) (l₂ := L.drop (r + 1))
        rw [List.eraseIdx_eq_take_drop_succ]
        refine this.symm.trans ?_
        have e : L.take r ++ L.getD r 0 :: L.drop (r + 1) = L := by
          conv => rhs; rw [← List.take_append_drop r L, List.drop_eq_getElem_cons hr, ← gd_lt (d := 0) hr]
        rw [e]
      have := hN [some (.obj 0), some (.int (n : Int)), some (.obj 1), some (.obj 2), some (.int (x : Int))] [c2, .lst (nD (L.eraseIdx r)), .lst (nD (F ++ [L.getD r 0]))] trivial ⟨c2, L.eraseIdx r, F ++ [L.getD r 0], _, p2, by rw [List.length_eraseIdx, if_pos hr]; omega, by simp [hF], hp2.trans hP, rfl, rfl⟩
      simpa using this
    · rintro ρ μ' ⟨c', L, F, y4, pc, hL, hF, hP, rfl, rfl⟩
      rw [List.length_range] at pc hL hF
      have : L = [] := List.length_eq_zero_iff.mp (by omega)
      subst this
      rw [List.append_nil] at hP
      ((wtm_at "w_pre"); (with_reducible apply WS.ret); repeat' (first | wtm_at "ev_core")); (try (with_reducible rfl))
      subst hQ
      exact ⟨F, c', hP, pc, [.lst [], .fz (.lst (nD F))], rfl⟩
  obtain ⟨xs, c', h1, h2, ex, h3⟩ := H
  refine ⟨xs, c', h1, h2, ?_⟩
  unfold S__law_order
  exact fn_okX rfl (by simp [PC.below h2]) ((cl_lst (cl_nD _)).1 _) ⟨ex, h3⟩
end K77

namespace K77
open PySem PySem.Spec Z K77c
variable {μ : Mem}
/-! ### all orders -/
theorem allP_len : ∀ k, (∀ r ∈ allP k, r.length = k) ∧ (allP k).length = fac k
  | 0 => by simp [allP, fac]
  | k + 1 => by
    obtain ⟨h1, h2⟩ := allP_len k
    constructor
    · intro r hr
      obtain ⟨row, hrow, hr⟩ := List.mem_flatMap.mp hr
      obtain ⟨a, ha, rfl⟩ := List.mem_map.mp hr
      have := h1 row hrow
      have := List.mem_range.mp ha
      simp; omega
    · show ((allP k).flatMap _).length = fac k * (k + 1)
      rw [← h2]
      have key : ∀ l : List (List Nat), (∀ r ∈ l, r.length = k) → (l.flatMap fun row => (List.range (row.length + 1)).map fun a => row.take a ++ [k] ++ row.drop a).length = l.length * (k + 1) := fun l => by
        induction l with
        | nil => intro _; simp
        | cons r l ih =>
          intro h
          rw [List.flatMap_cons, List.length_append, ih fun q hq => h q (List.mem_cons_of_mem _ hq), List.length_map, List.length_range, h r List.mem_cons_self, List.length_cons, Nat.succ_mul]; omega
      exact key _ h1
theorem lex_sorted : ∀ n, n < 6 → (lexN n).Pairwise fun p q => leR p q = true := by decide +kernel
theorem all_sorted {n : Nat} (hn : n < 6) : (allP n).mergeSort leR = lexN n := by
  refine List.Perm.eq_of_pairwise (le := fun p q => leR p q = true) (fun a b _ _ h1 h2 => leR_anti h1 h2) (List.pairwise_mergeSort leR_trans leR_total _) (lex_sorted n hn) ?_
  exact (List.mergeSort_perm _ _).trans (List.isPerm_iff.mp (lex_perm n hn))
def insN (k : Nat) (row : List Nat) : List (List Nat) := (List.range (row.length + 1)).map fun a => row.take a ++ [k] ++ row.drop a
theorem all_ok {n : Nat} (hn : n < 6) (μ : Mem) (hb : μ.all (Cell.below μ.length) = true) : S__law_all [.int (n : Int)] μ = .ok (.lst ((lexN n).map eW)) μ := by
  have f5 : ∀ j, j ≤ 5 → fac j ≤ 120 := fun j hj => by
    have : ∀ m : Fin 6, fac m.val ≤ 120 := by decide +kernel
    exact this ⟨j, by omega⟩
  unfold S__law_all; (with_reducible apply fn_okJ); rotate_left 2; (with_reducible apply WS.tail); unfold b__law_all; (wtm_at "w_start")
  · ((wtm_at "w_pre"); (with_reducible apply WS.set); repeat' (first | wtm_at "ev_core")); all_goals ((wtm_at "w_norm"))
    ((wtm_at "w_pre"); (with_reducible apply WS.forA (I := fun j ρ μ' => ∃ J y2 y3 y4 y5, μ' = μ ++ J ∧ ρ = [some (.int (n : Int)), some (.lst ((allP j).map eW)), y2, y3, y4, y5])); repeat' (first | wtm_at "ev_core"))
    · exact ⟨[], _, _, _, _, by simp, rfl⟩
    · rintro j x ρ μ' Q' hx hN _ ⟨J, y2, y3, y4, y5, rfl, rfl⟩
      have hj : j < n := by have := (List.getElem?_eq_some_iff.mp hx).1; simpa using this
      have hxj : x = j := by have := (List.getElem?_eq_some_iff.mp hx).2; simpa using this.symm
      subst hxj
      obtain ⟨al, ac⟩ := allP_len x
      have afac := f5 x (by omega)
      have afac1 := f5 (x + 1) (by omega)
      have hal : (allP (x + 1)).length ≤ 120 := by rw [(allP_len (x + 1)).2]; exact afac1
      have hN := fun J y2 y3 y4 y5 => hN [some (.int (n : Int)), some (.lst ((allP (x + 1)).map eW)), y2, y3, y4, y5] (μ ++ J) trivial ⟨J, y2, y3, y4, y5, rfl, rfl⟩
      have hall : allP (x + 1) = (allP x).flatMap (insN x) := rfl
      rw [hall] at hN hal
      generalize allP x = rows at al ac hN hal
      refine ⟨_, rfl, ?_⟩; (with_reducible apply WS.tail); (wtm_at "w_norm")
      ((wtm_at "w_pre"); (with_reducible apply WS.set); repeat' (first | wtm_at "ev_core")); all_goals ((wtm_at "w_norm"))
      ((wtm_at "w_pre"); (with_reducible apply WS.forPA (I := fun (p : List (List Nat)) ρ μ' => μ' = μ ++ (J ++ [.lst ((p.flatMap (insN x)).map eW)]) ∧ ∃ y4 y5, ρ = [some (.int (n : Int)), some (.lst (rows.map eW)), some (.int (x : Int)), some (.obj (μ.length + J.length)), y4, y5])); repeat' (first | wtm_at "ev_core"))
      · exact ⟨by simp, y4, y5, by simp⟩
      · rintro p r s ρ μ' Q2 hp hN2 _ ⟨rfl, y4, y5, rfl⟩
        have hr : r.length = x := al r (hp ▸ List.mem_append_right _ List.mem_cons_self)
        have hle : (p.flatMap (insN x)).length + (insN x r).length ≤ 120 := by
          have e : (p ++ r :: s).flatMap (insN x) = p.flatMap (insN x) ++ (insN x r ++ s.flatMap (insN x)) := by simp
          rw [hp, e, List.length_append, List.length_append] at hal
          omega
        have hm : ∀ m, (μ ++ (J ++ [m])).length = μ.length + J.length + 1 := fun m => by simp; omega
        have lc : fLc (iRg1 (fOp2 dAdd (fBi dLen (fCons (fV 4) fNil)) (fC (.int 1)))) (aNm 5) tYes (fTree (fCat (fTree (fCat (fTree (fSlL (fV 4) oNone (oSome (fV 5)))) (fTree (fItems (fCons (fV 2) fNil))))) (fTree (fSlL (fV 4) (oSome (fV 5)) oNone)))) [5] [some (.int (n : Int)), some (.lst (rows.map eW)), some (.int (x : Int)), some (.obj (μ.length + J.length)), some (eW r), y5] (μ ++ (J ++ [.lst ((p.flatMap (insN x)).map eW)])) = .ok ((insN x r).map eW) (μ ++ (J ++ [.lst ((p.flatMap (insN x)).map eW)])) := by
          have e : (insN x r).map eW = (List.range (r.length + 1)).map fun a => eW (r.take a ++ [x] ++ r.drop a) := by unfold insN; rw [List.map_map]; rfl
          rw [e]
          refine ev_lcY (toD := fun (k : Nat) => D.int (k : Int)) (xs := List.range (r.length + 1)) (gd := none) (rg1_ok (n := r.length + 1) (ev_op2 (ev_bi (ev_cons (ev_v rfl) ev_nil) (by rw [len_lst, List.length_map])) ev_c (add1 _ _)) (by omega)) trivial (by rw [List.length_range]; omega) (trn fun a ha => ⟨_, rfl, ?_⟩)
          have e2 : nD (r.take a ++ [x] ++ r.drop a) = ((nD r).take a ++ [.int (x : Int)]) ++ (nD r).drop a := by unfold nD; simp
          show _ = Z.R.ok (D.lst (nD (r.take a ++ [x] ++ r.drop a))) _
          rw [e2]
          refine ev_tree (ev_catL (ev_tree (ev_catL (ev_tree (ev_slT (ev_v rfl) (ev_osome (ev_v rfl)) rfl)) (ev_tree (ev_items (ev_cons (ev_v rfl) ev_nil) (by simp))) rfl rfl ?_)) (ev_tree (ev_slD (ev_v rfl) (ev_osome (ev_v rfl)) rfl)) rfl rfl ?_)
          · simp; omega
          · simp; omega
        refine ⟨_, rfl, ?_⟩; (with_reducible apply WS.tail); (wtm_at "w_norm")
        ((wtm_at "w_pre"))
        refine WS.ext (n := μ.length + J.length) (ds0 := (p.flatMap (insN x)).map eW) (ds := (p.flatMap (insN x)).map eW) (es := (insN x r).map eW) (d := .lst ((insN x r).map eW)) (μ2 := μ ++ (J ++ [.lst ((p.flatMap (insN x)).map eW)])) rfl (by simp) (ev_tree lc) (by simp) rfl (by rw [List.length_map, List.length_map]; omega) ?_
        ((wtm_at "w_pre"); with_reducible apply WS.fin)
        refine hN2 _ _ trivial ⟨?_, _, _, rfl⟩
        rw [← List.append_assoc, List.set_append_right _ _ (by simp), List.length_append, Nat.sub_self]
        simp
      · rintro ρ μ' ⟨rfl, y4, y5, rfl⟩
        have fz : fFz 3 [some (.int (n : Int)), some (.lst (rows.map eW)), some (.int (x : Int)), some (.obj (μ.length + J.length)), y4, y5] (μ ++ (J ++ [.lst ((rows.flatMap (insN x)).map eW)])) = .ok (.lst ((rows.flatMap (insN x)).map eW)) (μ ++ (J ++ [.fz (.lst ((rows.flatMap (insN x)).map eW))])) := by
          have := ev_fz (ρ := [some (.int (n : Int)), some (.lst (rows.map eW)), some (.int (x : Int)), some (.obj (μ.length + J.length)), y4, y5]) (i := 3) (n := μ.length + J.length) (μ := μ ++ (J ++ [.lst ((rows.flatMap (insN x)).map eW)])) (ds := (rows.flatMap (insN x)).map eW) rfl (by simp)
          rw [this, ← List.append_assoc, List.set_append_right _ _ (by simp), List.length_append, Nat.sub_self]
          simp
        ((wtm_at "w_pre"); (with_reducible apply WS.set); repeat' (first | (with_reducible exact fz) | wtm_at "ev_core")); all_goals ((wtm_at "w_norm"))
        ((wtm_at "w_pre"); with_reducible apply WS.fin)
        exact hN _ _ _ _ _
    · rintro ρ μ' ⟨J, y2, y3, y4, y5, rfl, rfl⟩
      rw [List.length_range]
      have so := sortW (allP n) (fun w hw => by rw [(allP_len n).1 w hw]; omega) (μ ++ J)
      rw [all_sorted hn] at so
      ((wtm_at "w_pre"); (with_reducible apply WS.ret); repeat' (first | (with_reducible exact so) | wtm_at "ev_core")); (try (with_reducible rfl))
      exact ⟨J, rfl⟩
  · exact hb
  · exact (cl_lst (cl_map (fun w => cl_lst (cl_nD w)) _)).1 _
/-! ### the next order -/
theorem ixLast {l : List Nat} {x : Nat} (h : l.getLast? = some x) (μ : Mem) : dIx (.lst (nD l)) (.int (-1)) μ = .ok (.int (x : Int)) μ := by
  rw [ix_lst, atI_last (x := .int (x : Int)) (by rw [List.getLast?_map, h]; rfl)]; rfl
theorem ixLastO {n : Nat} {l : List Nat} {x : Nat} {μ : Mem} (hm : μ[n]? = some (.lst (nD l))) (h : l.getLast? = some x) : dIx (.obj n) (.int (-1)) μ = .ok (.int (x : Int)) μ := by
  rw [ix_obj _ hm, atI_last (x := .int (x : Int)) (by rw [List.getLast?_map, h]; rfl)]; rfl
def optL : Option (List Nat) → D
  | none => .non
  | some l => .lst (nD l)
theorem nD_set (l : List Nat) (x v : Nat) : (nD l).set x (.int (v : Int)) = nD (l.set x v) := by unfold nD; rw [List.map_set]
theorem next_ok {xs : List Nat} {n : Nat} (h : Ord xs n) (hn : n ≤ 40) (μ : Mem) (hb : μ.all (Cell.below μ.length) = true) : S_next_order [.lst (nD xs)] μ = .ok (optL (nextN xs)) μ := by
  have hl := h.l
  have c := chko_ok h hn (ls_tree xs μ)
  unfold S_next_order; (with_reducible apply fn_okJ); rotate_left 2; (with_reducible apply WS.tail); unfold b_next_order; (wtm_at "w_start")
  · ((wtm_at "w_pre"); (with_reducible apply WS.set); repeat' (first | (with_reducible exact c) | wtm_at "ev_core")); all_goals ((wtm_at "w_norm"))
    have H := ls_obj (μ := μ ++ [.lst (nD xs)]) (n := μ.length) (xs := xs) (by simp)
    have hlen := H.len
    have lc : fLc (iRg1 (fOp2 dSub (fBi dLen (fCons (fV 1) fNil)) (fC (.int 1)))) (aNm 3) (Z.tCmp dLt (fIx (fV 1) (fV 3)) (fIx (fV 1) (fOp2 dAdd (fV 3) (fC (.int 1))))) (fV 3) [3] [some (.lst (nD xs)), some (.obj μ.length), none, none, none, none, none] (μ ++ [.lst (nD xs)]) = .ok (nD (risingN xs)) (μ ++ [.lst (nD xs)]) := by
      have e : risingN xs = (List.range (xs.length - 1)).filter fun k => decide (((xs.getD k 0 : Nat) : Int) < ((xs.getD (k + 1) 0 : Nat) : Int)) := List.filter_congr fun k _ => by rw [Bool.eq_iff_iff, decide_eq_true_eq, decide_eq_true_eq]; omega
      rw [e]
      have rg : iRg1 (fOp2 dSub (fBi dLen (fCons (fV 1) fNil)) (fC (.int 1))) [some (.lst (nD xs)), some (.obj μ.length), none, none, none, none, none] (μ ++ [.lst (nD xs)]) = .ok ⟨(List.range (xs.length - 1)).map fun (k : Nat) => D.int (k : Int), none⟩ (μ ++ [.lst (nD xs)]) := by
        rw [iRg1_eq (j := (xs.length : Int) - 1) (ev_op2 (ev_bi (ev_cons (ev_v rfl) ev_nil) hlen) ev_c (Z.sub_int _ _ _)) (by unfold rg62; omega)]
        unfold rangeD
        rw [show ((xs.length : Int) - 1 - 0).toNat = xs.length - 1 by omega]
        simp
      refine ev_lc (toD := fun (k : Nat) => D.int (k : Int)) (xs := List.range (xs.length - 1)) (gd := none) rg trivial (by rw [List.length_range]; omega) (trn fun k hk => ⟨_, rfl, ?_⟩)
      have hk := List.mem_range.mp hk
      have ik := H.ix k (by omega)
      have ik1 := H.ix (k + 1) (by omega)
      exact ⟨ev_tc (ev_ix (ev_v rfl) (ev_v rfl) ik) (ev_ix (ev_v rfl) (ev_op2 (ev_v rfl) ev_c (add1 k _)) ik1) (Z.lt_int _ _ _), imp_t fun _ => ev_v rfl⟩
    ((wtm_at "w_pre"); (with_reducible apply WS.set); repeat' (first | (with_reducible exact lc) | wtm_at "ev_core")); all_goals ((wtm_at "w_norm"))
    cases hk : (risingN xs).getLast? with
    | none =>
      have e0 : risingN xs = [] := List.getLast?_eq_none_iff.mp hk
      have en : nextN xs = none := by unfold nextN; rw [hk]
      rw [e0, en]
      ((wtm_at "w_pre"); (with_reducible apply WS.if_t); repeat' (first | wtm_at "ev_core")); all_goals ((wtm_at "w_norm"))
      · rfl
      ((wtm_at "w_pre"); (with_reducible apply WS.ret); repeat' (first | wtm_at "ev_core")); (try (with_reducible rfl))
      exact ⟨_, rfl⟩
    | some k =>
      obtain ⟨j, pre, x, s1, y, s2, h1, hk1, hkj, hjl, _⟩ := next_split h.nd hk
      have en : nextN xs = some (nextAt xs k j) := by unfold nextN; rw [hk]; simp only [lastD_of h1]
      have ne : risingN xs ≠ [] := fun z => by rw [z] at hk; cases hk
      have il := ixLast hk
      ((wtm_at "w_pre"); (with_reducible apply WS.if_f); repeat' (first | wtm_at "ev_core")); all_goals ((wtm_at "w_norm"))
      · cases hr : risingN xs with
        | nil => exact absurd hr ne
        | cons a b => rfl
      ((wtm_at "w_pre"); (with_reducible apply WS.set); repeat' (first | (with_reducible apply il) | wtm_at "ev_core")); all_goals ((wtm_at "w_norm"))
      have lc2 : fLc (iRg2 (fOp2 dAdd (fV 3) (fC (.int 1))) (fBi dLen (fCons (fV 1) fNil))) (aNm 5) (Z.tCmp dGt (fIx (fV 1) (fV 5)) (fIx (fV 1) (fV 3))) (fV 5) [5] [some (.lst (nD xs)), some (.obj μ.length), some (.lst (nD (risingN xs))), some (.int (k : Int)), none, none, none] (μ ++ [.lst (nD xs)]) = .ok (nD (abovesN xs k)) (μ ++ [.lst (nD xs)]) := by
        have e : abovesN xs k = ((List.range (xs.length - (k + 1))).map fun i => k + 1 + i).filter fun q => decide (((xs.getD q 0 : Nat) : Int) > ((xs.getD k 0 : Nat) : Int)) := List.filter_congr fun q _ => by rw [Bool.eq_iff_iff, decide_eq_true_eq, decide_eq_true_eq]; omega
        rw [e]
        have rg : iRg2 (fOp2 dAdd (fV 3) (fC (.int 1))) (fBi dLen (fCons (fV 1) fNil)) [some (.lst (nD xs)), some (.obj μ.length), some (.lst (nD (risingN xs))), some (.int (k : Int)), none, none, none] (μ ++ [.lst (nD xs)]) = .ok ⟨((List.range (xs.length - (k + 1))).map fun i => k + 1 + i).map fun (k : Nat) => D.int (k : Int), none⟩ (μ ++ [.lst (nD xs)]) := by
          rw [iRg2_eq (ev_op2 (ev_v rfl) ev_c (add1 k _)) (ev_bi (ev_cons (ev_v rfl) ev_nil) hlen) (rg_nat (by omega)) (rg_nat (by omega))]
          unfold rangeD
          rw [show (((xs.length : Nat) : Int) - ((k + 1 : Nat) : Int)).toNat = xs.length - (k + 1) by omega, List.map_map]
          congr 2
        refine ev_lc (toD := fun (k : Nat) => D.int (k : Int)) (gd := none) rg trivial (by rw [List.length_map, List.length_range]; omega) (trn fun q hq => ⟨_, rfl, ?_⟩)
        obtain ⟨i, hi, rfl⟩ := List.mem_map.mp hq
        have hi := List.mem_range.mp hi
        have iq := H.ix (k + 1 + i) (by omega)
        have ik := H.ix k (by omega)
        exact ⟨ev_tc (ev_ix (ev_v rfl) (ev_v rfl) iq) (ev_ix (ev_v rfl) (ev_v rfl) ik) (Z.gt_int _ _ _), imp_t fun _ => ev_v rfl⟩
      have il2 := ixLast h1
      have ikk := H.ix k (by omega)
      have ijj := H.ix j hjl
      ((wtm_at "w_pre"); (with_reducible apply WS.set); repeat' (first | (with_reducible exact lc2) | (with_reducible apply il2) | wtm_at "ev_core")); all_goals ((wtm_at "w_norm"))
      ((wtm_at "w_pre"); (with_reducible apply WS.set); repeat' (first | (with_reducible exact ikk) | wtm_at "ev_core")); all_goals ((wtm_at "w_norm"))
      ((wtm_at "w_pre"))
      refine WS.setI (j := k) (μ1 := μ ++ [.lst (nD xs)]) (μ2 := μ ++ [.lst (nD xs)]) (d := .int (xs.getD j 0 : Nat)) (n := μ.length) (ds := nD xs) (by (repeat' (first | (with_reducible exact ijj) | wtm_at "ev_core"))) rfl (ev_v rfl) (by simp) (by rw [List.length_map]; omega) ?_
      rw [nD_set]
      ((wtm_at "w_norm"))
      ((wtm_at "w_pre"))
      refine WS.setI (j := j) (μ1 := μ ++ [.lst (nD (xs.set k (xs.getD j 0)))]) (μ2 := μ ++ [.lst (nD (xs.set k (xs.getD j 0)))]) (d := .int (xs.getD k 0 : Nat)) (n := μ.length) (ds := nD (xs.set k (xs.getD j 0))) (ev_v rfl) rfl (ev_v rfl) (by simp) (by rw [List.length_map, List.length_set]; omega) ?_
      rw [nD_set]
      ((wtm_at "w_norm"))
      have hsl : (swapN xs k j).length = xs.length := by unfold swapN; rw [List.length_set, List.length_set]
      have hsw : (xs.set k (xs.getD j 0)).set j (xs.getD k 0) = swapN xs k j := rfl
      rw [hsw, en]
      have fin : fCat (fTree (fSlL (fV 1) oNone (oSome (fOp2 dAdd (fV 3) (fC (.int 1)))))) (fTree (fRevL (fTree (fSlL (fV 1) (oSome (fOp2 dAdd (fV 3) (fC (.int 1)))) oNone)))) [some (.lst (nD xs)), some (.obj μ.length), some (.lst (nD (risingN xs))), some (.int (k : Int)), some (.int (j : Int)), none, some (.int (xs.getD k 0 : Nat))] (μ ++ [.lst (nD (swapN xs k j))]) = .ok (nD (nextAt xs k j)) (μ ++ [.lst (nD (swapN xs k j))]) := by
        have e : nD (nextAt xs k j) = (nD (swapN xs k j)).take (k + 1) ++ ((nD (swapN xs k j)).drop (k + 1)).reverse := by unfold nextAt nD; simp
        rw [e]
        have ls : lstD (μ ++ [Cell.lst (nD (swapN xs k j))]) (.obj μ.length) = some (nD (swapN xs k j)) := by simp [lstD]
        refine ev_catL (ev_tree (ev_slT (k := k + 1) (ev_v rfl) (ev_osome (ev_op2 (ev_v rfl) ev_c (add1 k _))) ls)) (ev_tree (ev_revL (ev_tree (ev_slD (k := k + 1) (ev_v rfl) (ev_osome (ev_op2 (ev_v rfl) ev_c (add1 k _))) ls)) rfl)) rfl rfl ?_
        rw [List.length_take, List.length_reverse, List.length_drop, List.length_map]; omega
      ((wtm_at "w_pre"))
      refine WS.ret (ev_tree fin) ⟨_, rfl⟩
  · exact hb
  · cases nextN xs with
    | none => rfl
    | some l => exact (cl_lst (cl_nD _)).1 _
/-! ### riffles -/
theorem riffle_ok' {n : Nat} (hn : n ≤ 40) (μ : Mem) (hb : μ.all (Cell.below μ.length) = true) : S_riffle [.int (n : Int)] μ = .ok (.lst (nD (riffleN n))) μ := by
  have d2 : ∀ (k : Nat) μ, dDiv (.int (k : Int)) (.int 2) μ = .ok (.int ((k / 2 : Nat) : Int)) μ := fun k μ => by rw [lf_div (by decide) (by decide)]; rfl
  have m2 : ∀ (k : Nat) μ, dMod (.int (k : Int)) (.int 2) μ = .ok (.int ((k % 2 : Nat) : Int)) μ := fun k μ => by rw [lf_mod (by decide)]; rfl
  have ad : ∀ (a b : Nat) μ, dAdd (.int (a : Int)) (.int (b : Int)) μ = .ok (.int ((a + b : Nat) : Int)) μ := fun a b μ => by rw [Z.add_int]; rfl
  have ck := fun μ => chk_ok (show (0 : Int) ≤ (n : Int) by omega) (show (n : Int) ≤ 40 by omega) μ
  unfold S_riffle; (with_reducible apply fn_okJ); rotate_left 2; (with_reducible apply WS.tail); unfold b_riffle; (wtm_at "w_start")
  · ((wtm_at "w_pre"); (with_reducible apply WS.drop); repeat' (first | (with_reducible apply ck) | wtm_at "ev_core")); all_goals ((wtm_at "w_norm"))
    ((wtm_at "w_pre"); (with_reducible apply WS.set); repeat' (first | (with_reducible apply add1) | (with_reducible apply d2) | wtm_at "ev_core")); all_goals ((wtm_at "w_norm"))
    ((wtm_at "w_pre"); (with_reducible apply WS.set); repeat' (first | wtm_at "ev_core")); all_goals ((wtm_at "w_norm"))
    ((wtm_at "w_pre"); (with_reducible apply WS.forA (I := fun j ρ μ' => μ' = μ ++ [.lst (nD ((List.range j).map fun p => if p % 2 = 0 then p / 2 else (n + 1) / 2 + p / 2))] ∧ ∃ y3, ρ = [some (.int (n : Int)), some (.int ((n + 1) / 2 : Nat)), some (.obj μ.length), y3])); repeat' (first | wtm_at "ev_core"))
    · exact ⟨by simp, _, rfl⟩
    · rintro j x ρ μ' Q' hx hN _ ⟨rfl, y3, rfl⟩
      have hj : j < n := by have := (List.getElem?_eq_some_iff.mp hx).1; simpa using this
      have hxj : x = j := by have := (List.getElem?_eq_some_iff.mp hx).2; simpa using this.symm
      subst hxj
      have hl1 : (nD ((List.range x).map fun p => if p % 2 = 0 then p / 2 else (n + 1) / 2 + p / 2)).length ≤ 1000 := by simp; omega
      have ee : fIf (Z.tCmp dEq (fOp2 dMod (fV 3) (fC (.int 2))) (fC (.int 0))) (fOp2 dDiv (fV 3) (fC (.int 2))) (fOp2 dAdd (fV 1) (fOp2 dDiv (fV 3) (fC (.int 2)))) [some (.int (n : Int)), some (.int ((n + 1) / 2 : Nat)), some (.obj μ.length), some (.int (x : Int))] (μ ++ [.lst (nD ((List.range x).map fun p => if p % 2 = 0 then p / 2 else (n + 1) / 2 + p / 2))]) = .ok (.int ((if x % 2 = 0 then x / 2 else (n + 1) / 2 + x / 2 : Nat) : Int)) (μ ++ [.lst (nD ((List.range x).map fun p => if p % 2 = 0 then p / 2 else (n + 1) / 2 + p / 2))]) := by
        by_cases h0 : x % 2 = 0
        · rw [if_pos h0]
          refine ev_fifT (ev_tc (ev_op2 (ev_v rfl) ev_c (m2 _ _)) ev_c ?_) (ev_op2 (ev_v rfl) ev_c (d2 _ _))
          rw [dEq_int, decide_eq_true (by omega)]
        · rw [if_neg h0]
          refine ev_fifF (ev_tc (ev_op2 (ev_v rfl) ev_c (m2 _ _)) ev_c ?_) (ev_op2 (ev_v rfl) (ev_op2 (ev_v rfl) ev_c (d2 _ _)) (ad _ _ _))
          rw [dEq_int, decide_eq_false (by omega)]
      refine ⟨_, rfl, ?_⟩; (with_reducible apply WS.tail); (wtm_at "w_norm")
      ((wtm_at "w_pre"); (with_reducible apply WS.app); repeat' (first | (with_reducible exact ee) | wtm_at "ev_core")); all_goals ((wtm_at "w_norm"))
      ((wtm_at "w_pre"); with_reducible apply WS.fin)
      refine hN _ _ trivial ⟨?_, _, rfl⟩
      rw [List.range_succ]
      simp
    · rintro ρ μ' ⟨rfl, y3, rfl⟩
      rw [List.length_range]
      ((wtm_at "w_pre"); (with_reducible apply WS.ret); repeat' (first | wtm_at "ev_core")); (try (with_reducible rfl))
      exact ⟨[.fz (.lst (nD (riffleN n)))], by rw [setA0]; rfl⟩
  · exact hb
  · exact (cl_lst (cl_nD _)).1 _
end K77

namespace K77
open PySem PySem.Spec Z K77c
variable {μ : Mem}
/-! ### rings -/
theorem notinO {n x : Nat} {l : List Nat} {μ : Mem} (h : μ[n]? = some (.lst (nD l))) : dNotIn (.int (x : Int)) (.obj n) μ = some (!decide (x ∈ l)) := by
  have e := in_nats x l μ
  have e1 : lstD μ (.obj n) = some (nD l) := by simp [lstD, h]
  have e2 : lstD μ (.lst (nD l)) = some (nD l) := rfl
  unfold dNotIn
  unfold dIn at e ⊢
  simp only [e1]
  simp only [e2] at e
  rw [e]; rfl
theorem below_app {μ : Mem} (hb : μ.all (Cell.below μ.length) = true) {cs : Mem} (hc : ∀ c ∈ cs, ∀ n, Cell.below n c = true) : (μ ++ cs).all (Cell.below (μ ++ cs).length) = true := by
  rw [List.all_append, Bool.and_eq_true]
  constructor
  · rw [List.all_eq_true] at hb ⊢
    exact fun z hz => cell_le (by rw [List.length_append]; omega) (hb z hz)
  · rw [List.all_eq_true]
    exact fun z hz => hc z hz _
def runN (xs : List Nat) (s i : Nat) : List Nat := (List.range (i + 1)).map fun k => it xs k s
theorem run_last (xs : List Nat) (s i : Nat) : (runN xs s i).getLast? = some (it xs i s) := by
  unfold runN; rw [List.range_succ, List.map_append]; simp
theorem run_succ (xs : List Nat) (s i : Nat) : runN xs s (i + 1) = runN xs s i ++ [it xs (i + 1) s] := by
  unfold runN; rw [List.range_succ (n := i + 1), List.map_append]; rfl
theorem ring_len {xs : List Nat} {n : Nat} (h : Ord xs n) {s : Nat} (hs : s < n) : (ringN xs s).length ≤ n := by
  unfold ringN; rw [List.length_map, List.length_range]; exact (per_ok h hs).1
theorem seen_len {xs : List Nat} {n : Nat} (h : Ord xs n) : ∀ ss : List Nat, (∀ s ∈ ss, s < n) → (ss.flatMap (ringN xs)).length ≤ ss.length * n
  | [], _ => by simp
  | s :: ss, hs => by
    rw [List.flatMap_cons, List.length_append, List.length_cons, Nat.succ_mul]
    have := ring_len h (hs s List.mem_cons_self)
    have := seen_len h ss fun q hq => hs q (List.mem_cons_of_mem _ hq)
    omega
theorem rings_ok {xs : List Nat} {n : Nat} (h : Ord xs n) (hn : n ≤ 8) {d : D} (H0 : LS μ d xs) (hb : μ.all (Cell.below μ.length) = true) : S_rings [d] μ = .ok (.lst ((startsN xs n).map fun s => eW (ringN xs s))) μ := by
  have hl := h.l
  have c := chko_ok h (by omega) H0
  have hq : ∀ Q : RS → Prop, (Q .bad → ∃ ex, RS.bad = RS.ret (.lst ((startsN xs n).map fun s => eW (ringN xs s))) (μ ++ ex)) → ¬ Q .bad := fun Q h z => by obtain ⟨_, e⟩ := h z; cases e
  unfold S_rings; (with_reducible apply fn_okJ); rotate_left 2; (with_reducible apply WS.tail); unfold b_rings; (wtm_at "w_start")
  · ((wtm_at "w_pre"); (with_reducible apply WS.set); repeat' (first | (with_reducible exact c) | wtm_at "ev_core")); all_goals ((wtm_at "w_norm"))
    ((wtm_at "w_pre"); (with_reducible apply WS.set); repeat' (first | wtm_at "ev_core")); all_goals ((wtm_at "w_norm"))
    ((wtm_at "w_pre"); (with_reducible apply WS.set); repeat' (first | wtm_at "ev_core")); all_goals ((wtm_at "w_norm"))
    have hlen := (ls_obj (μ := μ ++ [.lst (nD xs), .lst [], .lst []]) (n := μ.length) (xs := xs) (by simp)).len
    rw [hl] at hlen
    ((wtm_at "w_pre"))
    refine WS.forW (μ1 := μ ++ [.lst (nD xs), .lst [], .lst []]) (toD := fun (k : Nat) => D.int (k : Int)) (xs := List.range n) (I := fun j ρ μ' => ∃ J y4 y5, μ' = μ ++ .lst (nD xs) :: .lst (nD ((startsN xs j).flatMap (ringN xs))) :: .lst ((startsN xs j).map fun s => eW (ringN xs s)) :: J ∧ ρ = [some d, some (.obj μ.length), some (.obj (μ.length + 1)), some (.obj (μ.length + 2)), y4, y5]) (rg1_ok (n := n) (by (repeat' (first | (with_reducible exact hlen) | wtm_at "ev_core"))) (by omega)) ⟨[], _, _, rfl, rfl⟩ ?_ ?_
    · rintro j x ρ μ' Q' hx hN _ hBad ⟨J, y4, y5, rfl, rfl⟩
      have hj : j < n := by have := (List.getElem?_eq_some_iff.mp hx).1; simpa using this
      have hxj : x = j := by have := (List.getElem?_eq_some_iff.mp hx).2; simpa using this.symm
      subst hxj
      have hB := hq Q' hBad
      obtain ⟨s1, s2, s3⟩ := starts_ok xs x
      have sl := seen_len h (startsN xs x) (fun s hs => by have := s1 s hs; omega)
      have sl2 : (startsN xs x).length * n ≤ 8 * 8 := Nat.mul_le_mul (by omega) hn
      have hN := fun J y4 y5 => hN [some d, some (.obj μ.length), some (.obj (μ.length + 1)), some (.obj (μ.length + 2)), y4, y5] (μ ++ .lst (nD xs) :: .lst (nD ((startsN xs (x + 1)).flatMap (ringN xs))) :: .lst ((startsN xs (x + 1)).map fun s => eW (ringN xs s)) :: J) trivial ⟨J, y4, y5, rfl, rfl⟩
      rw [starts_succ] at hN
      unfold addS at hN
      generalize startsN xs x = ss at s1 s3 sl sl2 hN
      have ni := notinO (n := μ.length + 1) (x := x) (l := ss.flatMap (ringN xs)) (μ := μ ++ .lst (nD xs) :: .lst (nD (ss.flatMap (ringN xs))) :: .lst (ss.map fun s => eW (ringN xs s)) :: J) (by simp)
      refine ⟨_, rfl, ?_⟩; (with_reducible apply WS.tail); (wtm_at "w_norm")
      by_cases hc : x ∈ ss.flatMap (ringN xs)
      · rw [if_pos hc] at hN
        ((wtm_at "w_pre"); (with_reducible apply WS.if_f); repeat' (first | (with_reducible exact ni) | wtm_at "ev_core")); all_goals ((wtm_at "w_norm"))
        · rw [decide_eq_true hc]; rfl
        ((wtm_at "w_pre"); with_reducible apply WS.fin)
        exact hN J _ _
      · rw [if_neg hc] at hN
        ((wtm_at "w_pre"); (with_reducible apply WS.if_t); repeat' (first | (with_reducible exact ni) | wtm_at "ev_core")); all_goals ((wtm_at "w_norm"))
        · rw [decide_eq_false hc]; rfl
        ((wtm_at "w_pre"); (with_reducible apply WS.set); repeat' (first | wtm_at "ev_core")); all_goals ((wtm_at "w_norm"))
        obtain ⟨q1, q2, q3⟩ := per_ok h hj
        have qp := per_pos xs x
        ((wtm_at "w_pre"))
        refine WS.whileA (I := fun m ρ μ' => ∃ i, i + 1 + m = per xs x ∧ μ' = μ ++ .lst (nD xs) :: .lst (nD (ss.flatMap (ringN xs))) :: .lst (ss.map fun s => eW (ringN xs s)) :: (J ++ [.lst (nD (runN xs x i))]) ∧ ρ = [some d, some (.obj μ.length), some (.obj (μ.length + 1)), some (.obj (μ.length + 2)), some (.int (x : Int)), some (.obj (μ.length + (J.length + 3)))]) (per xs x - 1) hB ⟨0, by omega, by simp [runN, it], ?_⟩ ?_
        · rfl
        rintro m ρ μ' Q2 hN2 _ _ ⟨i, him, rfl, rfl⟩
        have at5 : (μ ++ .lst (nD xs) :: .lst (nD (ss.flatMap (ringN xs))) :: .lst (ss.map fun s => eW (ringN xs s)) :: (J ++ [.lst (nD (runN xs x i))]))[μ.length + (J.length + 3)]? = some (.lst (nD (runN xs x i))) := by simp
        have il := ixLastO at5 (run_last xs x i)
        have H2 := ls_obj (μ := μ ++ .lst (nD xs) :: .lst (nD (ss.flatMap (ringN xs))) :: .lst (ss.map fun s => eW (ringN xs s)) :: (J ++ [.lst (nD (runN xs x i))])) (n := μ.length) (xs := xs) (by simp)
        have ix2 := H2.ix (it xs i x) (by rw [hl]; exact it_lt h hj i)
        have ei : (xs.getD (it xs i x) 0) = it xs (i + 1) x := rfl
        rw [ei] at ix2
        refine ⟨!decide ((it xs (i + 1) x : Int) = (x : Int)), _, by (repeat' (first | (with_reducible exact il) | (with_reducible exact ix2) | wtm_at "ev_core")), ?_, ?_⟩
        · intro hne
          have hne : it xs (i + 1) x ≠ x := by simp at hne; omega
          have : i + 1 ≠ per xs x := fun z => hne (by rw [z]; exact q2)
          obtain ⟨m', rfl⟩ : ∃ m', m = m' + 1 := ⟨m - 1, by omega⟩
          have rl : (nD (runN xs x i)).length ≤ 1000 := by simp [runN]; omega
          (with_reducible apply WS.tail)
          ((wtm_at "w_pre"); (with_reducible apply WS.app); repeat' (first | (with_reducible exact il) | (with_reducible exact ix2) | wtm_at "ev_core")); all_goals ((wtm_at "w_norm"))
          ((wtm_at "w_pre"); with_reducible apply WS.fin)
          refine hN2 _ _ m' (by omega) ⟨i + 1, by omega, ?_, rfl⟩
          rw [run_succ]; simp
        · intro he
          have he : it xs (i + 1) x = x := by simp at he; omega
          have hi : i + 1 = per xs x := by
            rcases Nat.lt_or_ge (i + 1) (per xs x) with z | z
            · exact absurd he (q3 (i + 1) (by omega) z)
            · omega
          have hr : runN xs x i = ringN xs x := by unfold runN ringN; rw [hi]
          rw [hr] at at5 ⊢
          have rgl := ring_len h hj
          have fz : fFz 5 [some d, some (.obj μ.length), some (.obj (μ.length + 1)), some (.obj (μ.length + 2)), some (.int (x : Int)), some (.obj (μ.length + (J.length + 3)))] (μ ++ .lst (nD xs) :: .lst (nD (ss.flatMap (ringN xs))) :: .lst (ss.map fun s => eW (ringN xs s)) :: (J ++ [.lst (nD (ringN xs x))])) = .ok (.lst (nD (ringN xs x))) (μ ++ .lst (nD xs) :: .lst (nD (ss.flatMap (ringN xs))) :: .lst (ss.map fun s => eW (ringN xs s)) :: (J ++ [.fz (.lst (nD (ringN xs x)))])) := by
            have := ev_fz (ρ := [some d, some (.obj μ.length), some (.obj (μ.length + 1)), some (.obj (μ.length + 2)), some (.int (x : Int)), some (.obj (μ.length + (J.length + 3)))]) (i := 5) rfl at5
            rw [this, setA]
            simp
          ((wtm_at "w_pre"))
          refine WS.ext (n := μ.length + 1) (ds0 := nD (ss.flatMap (ringN xs))) (ds := nD (ss.flatMap (ringN xs))) (es := nD (ringN xs x)) (d := .lst (nD (ringN xs x))) (μ2 := μ ++ .lst (nD xs) :: .lst (nD (ss.flatMap (ringN xs))) :: .lst (ss.map fun s => eW (ringN xs s)) :: (J ++ [.fz (.lst (nD (ringN xs x)))])) rfl (by simp) fz (by simp) rfl (by rw [List.length_map, List.length_map]; omega) ?_
          rw [nD_app]
          have ssl : (ss.map fun s => eW (ringN xs s)).length ≤ 1000 := by rw [List.length_map]; omega
          ((wtm_at "w_norm"))
          ((wtm_at "w_pre"); (with_reducible apply WS.app); repeat' (first | wtm_at "ev_core")); all_goals ((wtm_at "w_norm"))
          ((wtm_at "w_pre"); with_reducible apply WS.fin)
          have := hN (J ++ [.fz (.lst (nD (ringN xs x)))]) (some (.int (x : Int))) (some (.obj (μ.length + (J.length + 3))))
          simpa using this
    · rintro ρ μ' ⟨J, y4, y5, rfl, rfl⟩
      rw [List.length_range]
      ((wtm_at "w_pre"); (with_reducible apply WS.ret); repeat' (first | wtm_at "ev_core")); (try (with_reducible rfl))
      refine ⟨.lst (nD xs) :: .lst (nD ((startsN xs n).flatMap (ringN xs))) :: .fz (.lst ((startsN xs n).map fun s => eW (ringN xs s))) :: J, ?_⟩
      simp [setA]
  · exact hb
  · exact (cl_lst (cl_map (fun w => cl_lst (cl_nD _)) _)).1 _
/-! ### times -/
theorem times_ok {xs : List Nat} {n : Nat} (h : Ord xs n) (hn : n ≤ 8) (μ : Mem) (hb : μ.all (Cell.below μ.length) = true) : S_times [.lst (nD xs)] μ = .ok (.int (timesN xs (startsN xs n) : Nat)) μ := by
  have rg := rings_ok h hn (ls_tree xs μ) hb
  obtain ⟨s1, _, s3⟩ := starts_ok xs n
  have hq : ∀ Q : RS → Prop, (Q .bad → RS.bad = RS.ret (.int (timesN xs (startsN xs n) : Nat)) μ) → ¬ Q .bad := fun Q h z => by have e := h z; cases e
  unfold S_times; (with_reducible apply fn_ok); (with_reducible apply WS.tail); unfold b_times; (wtm_at "w_start")
  ((wtm_at "w_pre"); (with_reducible apply WS.set); repeat' (first | wtm_at "ev_core")); all_goals ((wtm_at "w_norm"))
  ((wtm_at "w_pre"))
  refine WS.forW (toD := fun s => eW (ringN xs s)) (xs := startsN xs n) (I := fun j ρ μ' => μ' = μ ∧ ∃ y2 y3 y4, ρ = [some (.lst (nD xs)), some (.int (((startsN xs n).take j).foldl (lcmS xs) 1 : Nat)), y2, y3, y4]) (by (repeat' (first | (with_reducible exact rg) | wtm_at "ev_core"))) ⟨rfl, _, _, _, rfl⟩ ?_ ?_
  · rintro j s ρ μ' Q' hx hN _ hBad ⟨rfl, y2, y3, y4, rfl⟩
    have hB := hq Q' hBad
    have hjl := (List.getElem?_eq_some_iff.mp hx).1
    have hsm : s ∈ startsN xs n := List.mem_of_getElem? hx
    have et : (startsN xs n).take (j + 1) = (startsN xs n).take j ++ [s] := by
      rw [List.take_succ_eq_append_getElem hjl, (List.getElem?_eq_some_iff.mp hx).2]
    have b1 := part_840 h hn ((startsN xs n).take j) fun q hq => s1 q (List.mem_of_mem_take hq)
    have hN := fun y2 y3 y4 => hN _ _ trivial ⟨rfl, y2, y3, y4, rfl⟩
    rw [et, List.foldl_append] at hN
    have hp := (per_ok h (s1 s hsm)).1
    have hpp := per_pos xs s
    have lnr : ∀ μ, dLen [eW (ringN xs s)] μ = .ok (.int (per xs s : Nat)) μ := fun μ => by
      rw [len_lst, List.length_map]; unfold ringN; rw [List.length_map, List.length_range]
    generalize ((startsN xs n).take j).foldl (lcmS xs) 1 = t at b1 hN
    have hN : ∀ y2 y3 y4, Q' (.next [some (.lst (nD xs)), some (.int ((t / Nat.gcd t (per xs s) * per xs s : Nat) : Int)), y2, y3, y4] μ') := hN
    generalize per xs s = p at hN hp hpp lnr
    refine ⟨_, rfl, ?_⟩; (with_reducible apply WS.tail); (wtm_at "w_norm")
    ((wtm_at "w_pre"))
    refine WS.par (d := .int (t : Int)) (e := .int (p : Int)) (μ' := μ') (by (repeat' (first | (with_reducible apply lnr) | wtm_at "ev_core"))) ?_
    ((wtm_at "w_norm"))
    ((wtm_at "w_pre"))
    refine WS.whileA (I := fun m ρ μ2 => ∃ a b : Nat, Nat.gcd a b = Nat.gcd t p ∧ b ≤ m ∧ b ≤ 1000 ∧ a ≤ 1000 ∧ μ2 = μ' ∧ ρ = [some (.lst (nD xs)), some (.int (t : Int)), some (eW (ringN xs s)), some (.int (a : Int)), some (.int (b : Int))]) p hB ⟨t, p, rfl, Nat.le_refl _, by omega, by omega, rfl, rfl⟩ ?_
    rintro m ρ μ2 Q2 hN2 _ _ ⟨a, b, hg, hbm, hb1, ha1, rfl, rfl⟩
    refine ⟨decide ((b : Int) > 0), _, by (repeat' (first | wtm_at "ev_core")), ?_, ?_⟩
    · intro h0
      have h0 : 0 < b := by have := of_decide_eq_true h0; omega
      have md : ∀ μ, dMod (.int (a : Int)) (.int (b : Int)) μ = .ok (.int ((a % b : Nat) : Int)) μ := fun μ => by rw [lf_mod (by omega)]; rfl
      have hlt := Nat.mod_lt a h0
      (with_reducible apply WS.tail)
      ((wtm_at "w_pre"))
      refine WS.par (d := .int (b : Int)) (e := .int ((a % b : Nat) : Int)) (μ' := μ2) (by (repeat' (first | (with_reducible apply md) | wtm_at "ev_core"))) ?_
      ((wtm_at "w_norm"))
      ((wtm_at "w_pre"); with_reducible apply WS.fin)
      refine hN2 _ _ (a % b) (by omega) ⟨b, a % b, ?_, Nat.le_refl _, by omega, by omega, rfl, rfl⟩
      rw [← hg, Nat.gcd_comm a b, Nat.gcd_rec b a, Nat.gcd_comm]
    · intro h0
      have h0 : b = 0 := by have := of_decide_eq_false h0; omega
      subst h0
      rw [Nat.gcd_zero_right] at hg
      subst hg
      have hgp : 0 < Nat.gcd t p := Nat.gcd_pos_of_pos_right t hpp
      have hgl : Nat.gcd t p ≤ p := Nat.gcd_le_right t hpp
      have dv : ∀ μ, dDiv (.int (t : Int)) (.int (Nat.gcd t p : Nat)) μ = .ok (.int ((t / Nat.gcd t p : Nat) : Int)) μ := fun μ => by
        rw [lf_div (by omega) (by omega)]; rfl
      have ml : ∀ μ, dMul (.int ((t / Nat.gcd t p : Nat) : Int)) (.int (p : Int)) μ = .ok (.int ((t / Nat.gcd t p * p : Nat) : Int)) μ := fun μ => by
        have := Nat.div_le_self t (Nat.gcd t p)
        rw [lf_mul (by rw [Int.natAbs_natCast]; omega) (by rw [Int.natAbs_natCast]; omega)]; rfl
      ((wtm_at "w_pre"); (with_reducible apply WS.set); repeat' (first | (with_reducible apply dv) | (with_reducible apply lnr) | (with_reducible apply ml) | wtm_at "ev_core")); all_goals ((wtm_at "w_norm"))
      ((wtm_at "w_pre"); with_reducible apply WS.fin)
      exact hN _ _ _
  · rintro ρ μ' ⟨rfl, y2, y3, y4, rfl⟩
    rw [List.take_length]
    ((wtm_at "w_pre"); (with_reducible apply WS.ret); repeat' (first | wtm_at "ev_core")); (try (with_reducible rfl))
    rfl
/-! ### often -/
theorem often_ok {xs : List Nat} {n : Nat} (h : Ord xs n) (hn : n ≤ 8) {k : Nat} (hk : k ≤ 10 ^ 18) (μ : Mem) (hb : μ.all (Cell.below μ.length) = true) : S_often [.lst (nD xs), .int (k : Int)] μ = .ok (.lst (nD (haveN xs n k))) μ := by
  have hl := h.l
  have c := chko_ok h (by omega) (ls_tree xs μ)
  obtain ⟨s1, s2, s3⟩ := starts_ok xs n
  unfold S_often; (with_reducible apply fn_okJ); rotate_left 2; (with_reducible apply WS.tail); unfold b_often; (wtm_at "w_start")
  · ((wtm_at "w_pre"); (with_reducible apply WS.set); repeat' (first | (with_reducible exact c) | wtm_at "ev_core")); all_goals ((wtm_at "w_norm"))
    have e1 : (decide ((0 : Int) ≤ (k : Int)) && decide ((k : Int) ≤ 10 ^ 18)) = true := by
      rw [Bool.and_eq_true, decide_eq_true_eq, decide_eq_true_eq]; omega
    ((wtm_at "w_pre"); (with_reducible apply WS.if_f); repeat' (first | (with_reducible apply isnum_ok) | wtm_at "ev_core")); all_goals ((wtm_at "w_norm"))
    · rw [e1]; rfl
    have hlen := (ls_obj (μ := μ ++ [.lst (nD xs)]) (n := μ.length) (xs := xs) (by simp)).len
    have rep : fRep (fTree (fItems (fCons (fC (.int 0)) fNil))) (fBi dLen (fCons (fV 2) fNil)) [some (.lst (nD xs)), some (.int (k : Int)), some (.obj μ.length), none, none, none] (μ ++ [.lst (nD xs)]) = .ok (nD (List.replicate n 0)) (μ ++ [.lst (nD xs)]) := by
      have := ev_repL (k := xs.length) (f := fTree (fItems (fCons (fC (.int 0)) fNil))) (g := fBi dLen (fCons (fV 2) fNil)) (ρ := [some (.lst (nD xs)), some (.int (k : Int)), some (.obj μ.length), none, none, none]) (μ := μ ++ [.lst (nD xs)]) (ds := [.int 0]) (ev_tree (ev_items (ev_cons ev_c ev_nil) (by simp))) (ev_bi (ev_cons (ev_v rfl) ev_nil) hlen) rfl (by simp; omega) (by omega)
      rw [rep_nD, hl] at this
      exact this
    ((wtm_at "w_pre"); (with_reducible apply WS.set); repeat' (first | (with_reducible exact rep) | wtm_at "ev_core")); all_goals ((wtm_at "w_norm"))
    have rg := rings_ok (μ := μ ++ [.lst (nD xs), .lst (nD (List.replicate n 0))]) h hn (ls_obj (n := μ.length) (xs := xs) (by simp)) (below_app hb (by
      intro c hc
      simp only [List.mem_cons, List.not_mem_nil, or_false] at hc
      rcases hc with rfl | rfl
      · exact cl_cell (cl_nD _)
      · exact cl_cell (cl_nD _)))
    ((wtm_at "w_pre"))
    refine WS.forA (toD := fun s => eW (ringN xs s)) (xs := startsN xs n) (I := fun j ρ μ' => ∃ F y4 y5, F.length = n ∧ (∀ x ∈ ((startsN xs n).take j).flatMap (ringN xs), F.getD x 0 = it xs k x) ∧ μ' = μ ++ [.lst (nD xs), .lst (nD F)] ∧ ρ = [some (.lst (nD xs)), some (.int (k : Int)), some (.obj μ.length), some (.obj (μ.length + 1)), y4, y5]) (by (repeat' (first | (with_reducible exact rg) | wtm_at "ev_core"))) ⟨List.replicate n 0, _, _, by simp, by simp, rfl, rfl⟩ ?_ ?_
    · rintro j s ρ μ' Q' hx hN _ ⟨F, y4, y5, hF, hI, rfl, rfl⟩
      have hjl := (List.getElem?_eq_some_iff.mp hx).1
      have hsm : s ∈ startsN xs n := List.mem_of_getElem? hx
      have hsn := s1 s hsm
      have et : (startsN xs n).take (j + 1) = (startsN xs n).take j ++ [s] := by
        rw [List.take_succ_eq_append_getElem hjl, (List.getElem?_eq_some_iff.mp hx).2]
      obtain ⟨q1, q2, q3⟩ := per_ok h hsn
      have qp := per_pos xs s
      have hN := fun (F : List Nat) y4 y5 (h1 : F.length = n) h2 => hN [some (.lst (nD xs)), some (.int (k : Int)), some (.obj μ.length), some (.obj (μ.length + 1)), y4, y5] (μ ++ [.lst (nD xs), .lst (nD F)]) trivial ⟨F, y4, y5, h1, h2, rfl, rfl⟩
      rw [et, List.flatMap_append] at hN
      have hr1 : [s].flatMap (ringN xs) = ringN xs s := by simp
      rw [hr1] at hN
      generalize hdone : ((startsN xs n).take j).flatMap (ringN xs) = done at hI hN
      have rl : (ringN xs s).length = per xs s := by unfold ringN; rw [List.length_map, List.length_range]
      have rat : ∀ i, i < per xs s → (ringN xs s).getD i 0 = it xs i s := fun i hi => by
        rw [gd_lt (by rw [rl]; exact hi)]; unfold ringN; rw [List.getElem_map, List.getElem_range]
      have lnr : ∀ μ, dLen [eW (ringN xs s)] μ = .ok (.int (per xs s : Nat)) μ := fun μ => by rw [len_lst, List.length_map, rl]
      refine ⟨_, rfl, ?_⟩; (with_reducible apply WS.tail); (wtm_at "w_norm")
      ((wtm_at "w_pre"))
      refine WS.forA (toD := fun (k : Nat) => D.int (k : Int)) (xs := List.range (per xs s)) (I := fun i ρ μ' => ∃ F y5, F.length = n ∧ (∀ x ∈ done ++ (ringN xs s).take i, F.getD x 0 = it xs k x) ∧ μ' = μ ++ [.lst (nD xs), .lst (nD F)] ∧ ρ = [some (.lst (nD xs)), some (.int (k : Int)), some (.obj μ.length), some (.obj (μ.length + 1)), some (eW (ringN xs s)), y5]) (rg1_ok (n := per xs s) (ev_bi (ev_cons (ev_v rfl) ev_nil) (lnr _)) (by omega)) ⟨F, _, hF, by simpa using hI, rfl, rfl⟩ ?_ ?_
      · rintro i z ρ μ' Q2 hz hN2 _ ⟨F, y5, hF, hI, rfl, rfl⟩
        have hi : i < per xs s := by have := (List.getElem?_eq_some_iff.mp hz).1; simpa using this
        have hzi : z = i := by have := (List.getElem?_eq_some_iff.mp hz).2; simpa using this.symm
        subst hzi
        have ml := Nat.mod_lt (z + k) qp
        have ad : ∀ (a b : Nat) μ, dAdd (.int (a : Int)) (.int (b : Int)) μ = .ok (.int ((a + b : Nat) : Int)) μ := fun a b μ => by rw [Z.add_int]; rfl
        have md : ∀ μ, dMod (.int ((z + k : Nat) : Int)) (.int (per xs s : Nat)) μ = .ok (.int (((z + k) % per xs s : Nat) : Int)) μ := fun μ => by rw [lf_mod (by omega)]; rfl
        have i1 : ∀ μ, dIx (eW (ringN xs s)) (.int (((z + k) % per xs s : Nat) : Int)) μ = .ok (.int (it xs k (it xs z s) : Nat)) μ := fun μ => by
          have := ixN (xs := ringN xs s) (a := (z + k) % per xs s) (by rw [rl]; exact ml) μ
          have e : it xs (z + k) s = it xs k (it xs z s) := by rw [Nat.add_comm, it_add]
          rw [rat _ ml, ← it_mod q2, e] at this
          exact this
        have i2 : ∀ μ, dIx (eW (ringN xs s)) (.int (z : Int)) μ = .ok (.int (it xs z s : Nat)) μ := fun μ => by
          have := ixN (xs := ringN xs s) (a := z) (by rw [rl]; exact hi) μ
          rw [rat _ hi] at this
          exact this
        have hlt := it_lt h hsn z
        refine ⟨_, rfl, ?_⟩; (with_reducible apply WS.tail); (wtm_at "w_norm")
        ((wtm_at "w_pre"))
        refine WS.setI (j := it xs z s) (μ1 := μ ++ [.lst (nD xs), .lst (nD F)]) (μ2 := μ ++ [.lst (nD xs), .lst (nD F)]) (d := .int (it xs k (it xs z s) : Nat)) (n := μ.length + 1) (ds := nD F) (by (repeat' (first | (with_reducible apply ad) | (with_reducible apply lnr) | (with_reducible apply md) | (with_reducible apply i1) | wtm_at "ev_core"))) rfl (by (repeat' (first | (with_reducible apply i2) | wtm_at "ev_core"))) (by simp) (by rw [List.length_map]; omega) ?_
        rw [nD_set]
        ((wtm_at "w_pre"); with_reducible apply WS.fin)
        have := hN2 [some (.lst (nD xs)), some (.int (k : Int)), some (.obj μ.length), some (.obj (μ.length + 1)), some (eW (ringN xs s)), some (.int (z : Int))] (μ ++ [.lst (nD xs), .lst (nD (F.set (it xs z s) (it xs k (it xs z s))))]) trivial ⟨F.set (it xs z s) (it xs k (it xs z s)), _, by simp [hF], fun x hx => ?_, rfl, rfl⟩
        · simpa [setA] using this
        · by_cases e : x = it xs z s
          · rw [e, List.getD_eq_getElem?_getD, List.getElem?_set_self (by omega)]; rfl
          · rw [List.getD_eq_getElem?_getD, List.getElem?_set_ne (Ne.symm e), ← List.getD_eq_getElem?_getD]
            refine hI x ?_
            rcases List.mem_append.mp hx with hx | hx
            · exact List.mem_append_left _ hx
            · rw [List.take_succ_eq_append_getElem (by rw [rl]; exact hi)] at hx
              rcases List.mem_append.mp hx with hx | hx
              · exact List.mem_append_right _ hx
              · rw [List.mem_singleton, ← gd_lt (d := 0) (by rw [rl]; exact hi), rat _ hi] at hx
                exact absurd hx e
      · rintro ρ μ' ⟨F, y5, hF, hI, rfl, rfl⟩
        rw [List.length_range, List.take_of_length_le (by rw [rl]; omega)] at hI
        ((wtm_at "w_pre"); with_reducible apply WS.fin)
        exact hN F _ _ hF hI
    · rintro ρ μ' ⟨F, y4, y5, hF, hI, rfl, rfl⟩
      rw [List.take_length] at hI
      have hFe : F = haveN xs n k := by
        unfold haveN
        refine List.ext_getElem? fun i => ?_
        rw [List.getElem?_map]
        by_cases hi : i < n
        · have := hI i (s2 i hi)
          rw [gd_lt (by omega)] at this
          rw [List.getElem?_range hi, List.getElem?_eq_getElem (by omega), this]; rfl
        · rw [List.getElem?_eq_none (by omega), List.getElem?_eq_none (by simpa using hi)]; rfl
      subst hFe
      ((wtm_at "w_pre"); (with_reducible apply WS.ret); repeat' (first | wtm_at "ev_core")); (try (with_reducible rfl))
      refine ⟨[.lst (nD xs), .fz (.lst (nD (haveN xs n k)))], ?_⟩
      simp [setA]
  · exact hb
  · exact (cl_lst (cl_nD _)).1 _
theorem often_exc {d : D} (hd : ∀ μ, S_is_number [d, .int 0, .int (10 ^ (18 : Int).toNat)] μ = .ok (.bl false) μ) (μ : Mem) (hb : μ.all (Cell.below μ.length) = true) : S_often [.lst [.int 1, .int 0], d] μ = .exc badNum μ := by
  have h : Ord [1, 0] 2 := ord_perm (by decide)
  have c : S_checked_order [.lst [.int 1, .int 0]] μ = .ok (.obj μ.length) (μ ++ [.lst [.int 1, .int 0]]) := chko_ok h (by omega) (ls_tree [1, 0] μ)
  unfold S_often
  refine fn_excJ hb ?_
  (with_reducible apply WS.tail)
  unfold b_often
  wtm_at "w_start"
  ((wtm_at "w_pre"); (with_reducible apply WS.set); repeat' (first | (with_reducible exact c) | wtm_at "ev_core")); all_goals ((wtm_at "w_norm"))
  ((wtm_at "w_pre"); (with_reducible apply WS.if_t); repeat' (first | (with_reducible apply hd) | wtm_at "ev_core")); all_goals ((wtm_at "w_norm"))
  · rfl
  ((wtm_at "w_pre"); (with_reducible apply WS.raise); repeat' (first | wtm_at "ev_core"))
  exact ⟨_, [.lst [.int 1, .int 0]], rfl⟩
end K77

namespace K77
open PySem PySem.Spec Z K77c
theorem smD_int (x : Int) (n : Nat) : smD n (.int x) = true := by cases n <;> rfl
theorem sm_l {r : List D} (h : r.length ≤ 1000) (n : Nat) (h2 : ∀ d ∈ r, smD n d = true) : smD (n + 1) (.lst r) = true := by
  simp only [smD, smL_all, Bool.and_eq_true, decide_eq_true_eq, List.all_eq_true]
  exact ⟨h, h2⟩
theorem sm_nD (r : List Nat) (h : r.length ≤ 1000) (n : Nat) : smD (n + 1) (.lst (nD r)) = true := sm_l (by rw [List.length_map]; exact h) n fun d hd => by
  obtain ⟨q, _, rfl⟩ := List.mem_map.mp hd
  exact smD_int _ n
/-! ### what is refused -/
theorem i1 : isa_InvalidNumber (Str.ofString "InvalidNumber") = some true := by decide +kernel
theorem i2 : isa_InvalidPaper (Str.ofString "InvalidNumber") = some false := by decide +kernel
theorem i3 : isa_ValueError (Str.ofString "InvalidNumber") = some true := by decide +kernel
theorem i4 : Str.ofString "InvalidNumber" ∈ ecs := by decide +kernel
theorem j1 : isa_InvalidNumber (Str.ofString "InvalidPaper") = some false := by decide +kernel
theorem j2 : isa_InvalidPaper (Str.ofString "InvalidPaper") = some true := by decide +kernel
theorem j3 : isa_ValueError (Str.ofString "InvalidPaper") = some true := by decide +kernel
theorem j4 : Str.ofString "InvalidPaper" ∈ ecs := by decide +kernel
theorem refused0 {n d : D} (μ : Mem) (hx : μ.all Cell.noX = true) (h1 : ∀ μ, S_order_at [n, d] μ = .exc badNum μ) : S__law_refused [.int 0, n, d] μ = .ok (.str "number") μ := by
  unfold S__law_refused; (with_reducible apply fn_ok); (with_reducible apply WS.tail); unfold b__law_refused; (wtm_at "w_start")
  ((wtm_at "w_pre"); (with_reducible apply WS.tryAs_ret); (with_reducible apply WS.tail))
  · ((wtm_at "w_pre"); (with_reducible apply WS.if_t); repeat' (first | wtm_at "ev_core")); all_goals ((wtm_at "w_norm"))
    · rfl
    ((wtm_at "w_pre"); (with_reducible apply WS.dropE); repeat' (first | (with_reducible apply h1) | wtm_at "ev_core"))
    rfl
  · decide +kernel
  · (with_reducible apply WS.tail)
    ((wtm_at "w_pre"); (with_reducible apply WS.if_f); repeat' (first | (with_reducible exact i1) | (with_reducible exact i2) | (with_reducible exact i3) | (with_reducible exact i4) | wtm_at "ev_core")); all_goals ((wtm_at "w_norm"))
    · rfl
    ((wtm_at "w_pre"); (with_reducible apply WS.ret); repeat' (first | (with_reducible exact i1) | (with_reducible exact i2) | (with_reducible exact i3) | (with_reducible exact i4) | wtm_at "ev_core")); (try (with_reducible rfl))
  · rfl
  · exact hx
  · rfl
theorem refused1 {n d : D} (μ : Mem) (hx : μ.all Cell.noX = true) (h1 : S_place_of [d] μ = .exc badPap μ) : S__law_refused [.int 1, n, d] μ = .ok (.str "paper") μ := by
  unfold S__law_refused; (with_reducible apply fn_ok); (with_reducible apply WS.tail); unfold b__law_refused; (wtm_at "w_start")
  ((wtm_at "w_pre"); (with_reducible apply WS.tryAs_ret); (with_reducible apply WS.tail))
  · ((wtm_at "w_pre"); (with_reducible apply WS.if_f); repeat' (first | wtm_at "ev_core")); all_goals ((wtm_at "w_norm"))
    · rfl
    ((wtm_at "w_pre"); (with_reducible apply WS.if_t); repeat' (first | wtm_at "ev_core")); all_goals ((wtm_at "w_norm"))
    · rfl
    ((wtm_at "w_pre"); (with_reducible apply WS.dropE); repeat' (first | (with_reducible exact h1) | wtm_at "ev_core"))
    rfl
  · decide +kernel
  · (with_reducible apply WS.tail)
    ((wtm_at "w_pre"); (with_reducible apply WS.if_f); repeat' (first | (with_reducible exact j1) | (with_reducible exact j2) | (with_reducible exact j3) | (with_reducible exact j4) | wtm_at "ev_core")); all_goals ((wtm_at "w_norm"))
    · rfl
    ((wtm_at "w_pre"); (with_reducible apply WS.ret); repeat' (first | (with_reducible exact j1) | (with_reducible exact j2) | (with_reducible exact j3) | (with_reducible exact j4) | wtm_at "ev_core")); (try (with_reducible rfl))
  · rfl
  · exact hx
  · rfl
theorem refused2 {n d : D} (μ : Mem) (hx : μ.all Cell.noX = true) (h1 : S_often [.lst [.int 1, .int 0], d] μ = .exc badNum μ) : S__law_refused [.int 2, n, d] μ = .ok (.str "number") μ := by
  unfold S__law_refused; (with_reducible apply fn_ok); (with_reducible apply WS.tail); unfold b__law_refused; (wtm_at "w_start")
  ((wtm_at "w_pre"); (with_reducible apply WS.tryAs_ret); (with_reducible apply WS.tail))
  · ((wtm_at "w_pre"); (with_reducible apply WS.if_f); repeat' (first | wtm_at "ev_core")); all_goals ((wtm_at "w_norm"))
    · rfl
    ((wtm_at "w_pre"); (with_reducible apply WS.if_f); repeat' (first | wtm_at "ev_core")); all_goals ((wtm_at "w_norm"))
    · rfl
    ((wtm_at "w_pre"); (with_reducible apply WS.dropE); repeat' (first | (with_reducible exact h1) | wtm_at "ev_core"))
    rfl
  · decide +kernel
  · (with_reducible apply WS.tail)
    ((wtm_at "w_pre"); (with_reducible apply WS.if_f); repeat' (first | (with_reducible exact i1) | (with_reducible exact i2) | (with_reducible exact i3) | (with_reducible exact i4) | wtm_at "ev_core")); all_goals ((wtm_at "w_norm"))
    · rfl
    ((wtm_at "w_pre"); (with_reducible apply WS.ret); repeat' (first | (with_reducible exact i1) | (with_reducible exact i2) | (with_reducible exact i3) | (with_reducible exact i4) | wtm_at "ev_core")); (try (with_reducible rfl))
  · rfl
  · exact hx
  · rfl
theorem lex_at {m q : Nat} (hm : m < 6) (hq : q < fac m) : ((lexN m).getD q []).Perm (List.range m) ∧ rankN ((lexN m).getD q []) = q ∧ nextN ((lexN m).getD q []) = (lexN m)[q + 1]? ∧ unrankN m (List.range m) q = (lexN m).getD q [] := by
  have h := List.all_eq_true.mp (lex_ok m hm) q (List.mem_range.mpr hq)
  rw [Bool.and_eq_true, Bool.and_eq_true, decide_eq_true_eq, decide_eq_true_eq] at h
  refine ⟨List.isPerm_iff.mp h.1.1, h.1.2, h.2, ?_⟩
  rw [gd_lt (by unfold lexN; simp [hq])]
  simp [lexN]
theorem pow15 (μ : Mem) : dPow (.int 10) (.int 15) μ = .ok (.int 1000000000000000) μ := by simp [dPow]
theorem optL_map (l : List (List Nat)) (q : Nat) : optL l[q]? = ((l.map eW)[q]?).getD .non := by
  rw [List.getElem?_map]
  cases l[q]? <;> rfl
theorem law_ok : ∀ ns : List Int, ns.length ≤ 63 → (∀ z ∈ ns, Builtin.Int.intBits z ≤ 1048576) → ∃ μ, S_law [.sq (ns.map D.int)] [] = .ok (.bl true) μ := by
  intro sc _ _
  unfold S_law
  refine fn_by (P := fun r => ∃ μ, r = .ok (.bl true) μ) ?_
  generalize hQ : (fun r => ∃ μ, cleanD [] r = R.ok (.bl true) μ) = QQ
  have hqb : ¬ QQ .bad := by subst hQ; rintro ⟨μ, e⟩; cases e
  (with_reducible apply WS.tail)
  unfold b_law
  simp only [startD, List.map_cons, List.map_nil, List.length_cons, List.length_nil, List.replicate, List.cons_append, List.nil_append, List.append_nil, Nat.reduceSub, Nat.reduceAdd, Nat.zero_add]
  ((wtm_at "w_pre"); (with_reducible apply WS.set); repeat' (first | (with_reducible exact pool_ok sc) | wtm_at "ev_core")); all_goals ((wtm_at "w_norm"))
  obtain ⟨m, c1, hm, p1, d1⟩ := drawC (p0 sc) (by decide) (many := 6) (by decide) (by decide)
  have hm : m < 6 := by omega
  have e1 := d1 []
  ((wtm_at "w_pre"); (with_reducible apply WS.set); repeat' (first | (with_reducible exact e1) | wtm_at "ev_core")); all_goals ((wtm_at "w_norm"))
  have gc1 : GoodM [c1] := ⟨by simp [PC.below p1], by simp [PC.noX p1]⟩
  have ao := all_ok hm [c1] gc1.b
  ((wtm_at "w_pre"); (with_reducible apply WS.set); repeat' (first | (with_reducible exact ao) | wtm_at "ev_core")); all_goals ((wtm_at "w_norm"))
  have ll : (lexN m).length = fac m := by simp [lexN]
  have f120 : fac m ≤ 120 := by
    have : ∀ m : Fin 6, fac m.val ≤ 120 := by decide +kernel
    exact this ⟨m, by omega⟩
  have fp := fac_pos m
  have sm : ∀ {d : D} {μ : Mem}, smD 7 d = true → S__law_same [d, d] μ = .ok (.bl true) μ := fun h2 => same_ok _ h2 _
  have sI : ∀ (i : Int) μ, S__law_same [.int i, .int i] μ = .ok (.bl true) μ := fun i μ => sm (smD_int _ _)
  have sL : ∀ (l : List Nat), l.length ≤ 1000 → ∀ μ, S__law_same [eW l, eW l] μ = .ok (.bl true) μ := fun l h μ => sm (sm_nD l h 6)
  ((wtm_at "w_pre"); (with_reducible apply WS.forA (I := fun j ρ μ' => ∃ c y4 y5, PC sc (1 + j) c ∧ μ' = [c] ∧ ρ = [some (.sq (sc.map D.int)), some (.obj 0), some (.int (m : Int)), some (.lst ((lexN m).map eW)), y4, y5, none, none, none, none, none, none, none, none, none, none, none])); repeat' (first | wtm_at "ev_core"))
  · exact ⟨c1, _, _, p1, rfl, rfl⟩
  · rintro j x ρ μ' Q' hx hN _ ⟨c, y4, y5, pc, rfl, rfl⟩
    have hj : j < 5 := by have := (List.getElem?_eq_some_iff.mp hx).1; simpa using this
    obtain ⟨q, c2, hq, p2, d2⟩ := drawC pc (by omega) (many := ((fac m : Nat) : Int)) (by omega) (by omega)
    have hq : q < fac m := by omega
    have e2 := d2 []
    have gc2 : GoodM [c2] := ⟨by simp [PC.below p2], by simp [PC.noX p2]⟩
    have lnE : ∀ μ, dLen [.lst ((lexN m).map eW)] μ = .ok (.int (fac m : Nat)) μ := fun μ => by rw [len_lst, List.length_map, ll]
    have ixE : ∀ k, k < fac m → ∀ μ, dIx (.lst ((lexN m).map eW)) (.int (k : Int)) μ = .ok (eW ((lexN m).getD k [])) μ := fun k hk μ =>
      lf_ix (by rw [List.getElem?_map, List.getElem?_eq_getElem (by omega), gd_lt (by omega)]; rfl)
    obtain ⟨w1, w2, w3, w4⟩ := lex_at hm hq
    have ixq := ixE q hq
    have O := ord_perm w1
    have nx := next_ok O (by omega) [c2] gc2.b
    rw [w3] at nx
    have pl := place_ok O (by omega) [c2] gc2.b
    rw [w2] at pl
    have oa := at_ok (n := m) (p := q) (by omega) hq [c2] gc2.b
    rw [w4] at oa
    have ol := O.l
    have sW := sL ((lexN m).getD q []) (by omega)
    have due : ∀ ρ : Z.Env, ρ[3]? = some (some (.lst ((lexN m).map eW))) → ρ[5]? = some (some (.int (q : Int))) → fIf (Z.tCmp dLt (fOp2 dAdd (fV 5) (fC (.int 1))) (fBi dLen (fCons (fV 3) fNil))) (fIx (fV 3) (fOp2 dAdd (fV 5) (fC (.int 1)))) (fC .non) ρ [c2] = .ok (optL (lexN m)[q + 1]?) [c2] := fun ρ v3 v5 => by
      by_cases hq1 : q + 1 < fac m
      · have i1 := ixE (q + 1) hq1 [c2]
        have e : optL (lexN m)[q + 1]? = eW ((lexN m).getD (q + 1) []) := by rw [List.getElem?_eq_getElem (by omega), gd_lt (by omega)]; rfl
        rw [e]
        refine ev_fifT (μ1 := [c2]) (ev_tc (ev_op2 (ev_v v5) ev_c (add1 _ _)) (ev_bi (ev_cons (ev_v v3) ev_nil) (lnE _)) ?_) (ev_ix (ev_v v3) (ev_op2 (ev_v v5) ev_c (add1 _ _)) i1)
        rw [Z.lt_int, decide_eq_true (by omega)]
      · have e : optL (lexN m)[q + 1]? = .non := by rw [List.getElem?_eq_none (by omega)]; rfl
        rw [e]
        refine ev_fifF (μ1 := [c2]) (ev_tc (ev_op2 (ev_v v5) ev_c (add1 _ _)) (ev_bi (ev_cons (ev_v v3) ev_nil) (lnE _)) ?_) ev_c
        rw [Z.lt_int, decide_eq_false (by omega)]
    have sO : S__law_same [optL (lexN m)[q + 1]?, optL (lexN m)[q + 1]?] [c2] = .ok (.bl true) [c2] := by
      cases hh : (lexN m)[q + 1]? with
      | none => exact sm rfl
      | some l =>
        have hlq := (List.getElem?_eq_some_iff.mp hh).1
        have := (lex_at hm (show q + 1 < fac m by omega)).1.length_eq
        rw [gd_lt hlq, (List.getElem?_eq_some_iff.mp hh).2, List.length_range] at this
        exact sL l (by omega) _
    refine ⟨_, rfl, ?_⟩; (with_reducible apply WS.tail); (wtm_at "w_norm")
    ((wtm_at "w_pre"); (with_reducible apply WS.set); repeat' (first | (with_reducible apply lnE) | (with_reducible exact e2) | wtm_at "ev_core")); all_goals ((wtm_at "w_norm"))
    ((wtm_at "w_pre"); (with_reducible apply WS.if_f); repeat' (first | (with_reducible apply ixq) | (with_reducible exact pl) | (with_reducible apply sI) | (with_reducible exact oa) | (with_reducible exact sW _) | wtm_at "ev_core")); all_goals ((wtm_at "w_norm"))
    · rfl
    ((wtm_at "w_pre"); (with_reducible apply WS.if_f); repeat' (first | (with_reducible apply ixq) | (with_reducible exact nx) | (with_reducible exact due _ rfl rfl) | (with_reducible exact sO) | wtm_at "ev_core")); all_goals ((wtm_at "w_norm"))
    · rfl
    ((wtm_at "w_pre"); with_reducible apply WS.fin)
    exact hN _ _ trivial ⟨c2, _, _, p2.up (by omega), rfl, rfl⟩
  rintro ρ μ' ⟨c3, y4, y5, p3, rfl, rfl⟩
  -- a big one
  obtain ⟨r3, c4, hr3, p4, d4⟩ := drawC p3 (by simp) (many := 15) (by decide) (by decide)
  have e4 := d4 []
  have ad : ∀ (a b : Nat) μ, dAdd (.int (a : Int)) (.int (b : Int)) μ = .ok (.int ((a + b : Nat) : Int)) μ := fun a b μ => by rw [Z.add_int]; rfl
  have ad6 : ∀ μ, dAdd (.int 6) (.int (r3 : Int)) μ = .ok (.int ((6 + r3 : Nat) : Int)) μ := fun μ => ad 6 r3 μ
  ((wtm_at "w_pre"); (with_reducible apply WS.set); repeat' (first | (with_reducible exact e4) | (with_reducible apply ad6) | wtm_at "ev_core")); all_goals ((wtm_at "w_norm"))
  have hbig : 6 + r3 ≤ 20 := by omega
  generalize 6 + r3 = big at hbig
  rw [List.length_range] at p4
  have p4 : PC sc 10 c4 := p4.up (by decide)
  obtain ⟨xs, c5, hxs, p5, o5⟩ := order_ok p4 (n := big) (by omega) (by omega)
  have gc5 : GoodM [c5] := ⟨by simp [PC.below p5], by simp [PC.noX p5]⟩
  have O := ord_perm hxs
  have ol := O.l
  have po := place_ok O hbig [c5] gc5.b
  have rl := rank_lt xs
  rw [ol] at rl
  have oa := at_ok (n := big) (p := rankN xs) hbig rl [c5] gc5.b
  have ur := unrank_rank xs (List.range big) hxs List.pairwise_lt_range
  rw [ol] at ur
  rw [ur] at oa
  have sX := sL xs (by omega)
  have nx := next_ok O (by omega) [c5] gc5.b
  ((wtm_at "w_pre"); (with_reducible apply WS.set); repeat' (first | (with_reducible exact o5) | wtm_at "ev_core")); all_goals ((wtm_at "w_norm"))
  ((wtm_at "w_pre"); (with_reducible apply WS.if_f); repeat' (first | (with_reducible exact po) | (with_reducible exact oa) | (with_reducible exact sX _) | wtm_at "ev_core")); all_goals ((wtm_at "w_norm"))
  · rfl
  ((wtm_at "w_pre"); (with_reducible apply WS.set); repeat' (first | (with_reducible exact nx) | wtm_at "ev_core")); all_goals ((wtm_at "w_norm"))
  have aft : Z.tAnd (Z.tCmp dIsNot (fV 8) (fC .non)) (Z.tNot (fTru (fCall S__law_same 2 [] (fCons (fCall S_place_of 1 [] (fCons (fV 8) fNil)) (fCons (fOp2 dAdd (fCall S_place_of 1 [] (fCons (fV 7) fNil)) (fC (.int 1))) fNil))))) [some (.sq (sc.map D.int)), some (.obj 0), some (.int (m : Int)), some (.lst ((lexN m).map eW)), y4, y5, some (.int (big : Int)), some (.lst (nD xs)), some (optL (nextN xs)), none, none, none, none, none, none, none, none] [c5] = .ok false [c5] := by
    cases hnx : nextN xs with
    | none => exact and_f0 (ev_tc (ev_v rfl) ev_c rfl)
    | some ys =>
      obtain ⟨nr, np⟩ := next_rank O.nd hnx
      have py := place_ok (ord_perm (np.trans hxs)) hbig [c5] gc5.b
      rw [nr] at py
      have a1 := add1 (rankN xs) [c5]
      have s1 := sI ((rankN xs + 1 : Nat) : Int) [c5]
      refine and_t0 (μ1 := [c5]) (ev_tc (ev_v rfl) ev_c rfl) ?_
      have : Z.tNot (fTru (fCall S__law_same 2 [] (fCons (fCall S_place_of 1 [] (fCons (fV 8) fNil)) (fCons (fOp2 dAdd (fCall S_place_of 1 [] (fCons (fV 7) fNil)) (fC (.int 1))) fNil)))) [some (.sq (sc.map D.int)), some (.obj 0), some (.int (m : Int)), some (.lst ((lexN m).map eW)), y4, y5, some (.int (big : Int)), some (.lst (nD xs)), some (.lst (nD ys)), none, none, none, none, none, none, none, none] [c5] = .ok (!true) [c5] :=
        ev_not (ev_tru (ev_call0 (ev_cons (ev_call0 (ev_cons (ev_v rfl) ev_nil) rfl py) (ev_cons (ev_op2 (ev_call0 (ev_cons (ev_v rfl) ev_nil) rfl po) ev_c a1) ev_nil)) rfl s1) rfl)
      exact this
  ((wtm_at "w_pre"); (with_reducible apply WS.if_f); repeat' (first | (with_reducible exact aft) | wtm_at "ev_core")); all_goals ((wtm_at "w_norm"))
  generalize optL (nextN xs) = y8
  clear aft nx
  -- an order and how often
  obtain ⟨n, c6, hn, p6, d6⟩ := drawC p5 (by omega) (many := 9) (by decide) (by decide)
  have e6 := d6 []
  have hn : n ≤ 8 := by omega
  obtain ⟨zs, c7, hzs, p7, o7⟩ := order_ok p6 (n := n) (by omega) (by omega)
  have gc7 : GoodM [c7] := ⟨by simp [PC.below p7], by simp [PC.noX p7]⟩
  have O := ord_perm hzs
  have ol := O.l
  ((wtm_at "w_pre"); (with_reducible apply WS.set); repeat' (first | (with_reducible exact e6) | (with_reducible exact o7) | wtm_at "ev_core")); all_goals ((wtm_at "w_norm"))
  have lnz : ∀ μ, dLen [.lst (nD zs)] μ = .ok (.int (n : Nat)) μ := fun μ => by rw [len_lst, List.length_map, ol]
  ((wtm_at "w_pre"); (with_reducible apply WS.set); repeat' (first | (with_reducible apply lnz) | (with_reducible apply ev_rgL1) | wtm_at "ev_core")); all_goals ((wtm_at "w_norm"))
  ((wtm_at "w_pre"); (with_reducible apply WS.set); repeat' (first | wtm_at "ev_core")); all_goals ((wtm_at "w_norm"))
  ((wtm_at "w_pre"); (with_reducible apply WS.set); repeat' (first | wtm_at "ev_core")); all_goals ((wtm_at "w_norm"))
  ((wtm_at "w_pre"); (with_reducible apply WS.set); repeat' (first | wtm_at "ev_core")); all_goals ((wtm_at "w_norm"))
  have h0 : haveN zs n 0 = List.range n := by unfold haveN; exact List.map_id _
  have tle := times_le O hn
  have tpos := times_pos O hn
  have hback := have_back O
  have hmod := have_mod O
  have hsucc := have_succ O
  have thn := fun k => then_ok (cs := haveN zs n k) O (by omega) (by simp [haveN])
  have tm := times_ok O hn
  generalize timesN zs (startsN zs n) = T at tle tpos hback hmod tm
  have hl : ∀ k, (haveN zs n k).length = n := fun k => by simp [haveN]
  ((wtm_at "w_pre"))
  refine WS.whileA (I := fun w ρ μ' => ∃ k, k + w = T ∧ μ' = [c7, .lst ((List.range (k + 1)).map fun i => eW (haveN zs n i))] ∧ ρ = [some (.sq (sc.map D.int)), some (.obj 0), some (.int (m : Int)), some (.lst ((lexN m).map eW)), y4, y5, some (.int (big : Int)), some (.lst (nD zs)), some y8, some (.lst (nD (List.range n))), some (eW (haveN zs n k)), some (.int (k : Int)), some (.obj 1), none, none, none, none]) T hqb ⟨0, by omega, by simp [h0], by rw [h0]; rfl⟩ ?_
  rintro w ρ μ' Q' hN hR hBad ⟨k, hkw, rfl, rfl⟩
  refine ⟨decide (k < T), [c7, .lst ((List.range (k + 1)).map fun i => eW (haveN zs n i))], ?_, ?_, ?_⟩
  · by_cases hk0 : k = 0
    · subst hk0
      rw [decide_eq_true (by omega)]
      exact or_t0 (ev_tc (ev_v rfl) ev_c (by rw [dEq_int]; rfl))
    · refine or_f0 (μ1 := [c7, .lst ((List.range (k + 1)).map fun i => eW (haveN zs n i))]) (ev_tc (ev_v rfl) ev_c ?_) (ev_tc (ev_v rfl) (ev_v rfl) ?_)
      · rw [dEq_int, decide_eq_false (by omega)]
      · rw [ne_nats]
        refine congrArg some ?_
        by_cases hkT : k = T
        · rw [decide_eq_true ((hback k).mpr (by rw [hkT]; exact Nat.dvd_refl _)), decide_eq_false (by omega)]; rfl
        · rw [decide_eq_false (fun z => by have := Nat.le_of_dvd (by omega) ((hback k).mp z); omega), decide_eq_true (by omega)]; rfl
  · intro hlt
    have hlt := of_decide_eq_true hlt
    obtain ⟨w', rfl⟩ : ∃ w', w = w' + 1 := ⟨w - 1, by omega⟩
    have t1 := thn k
    rw [hsucc k] at t1
    have rl3 : ((List.range (k + 1)).map fun i => eW (haveN zs n i)).length ≤ 1000 := by simp; omega
    (with_reducible apply WS.tail)
    ((wtm_at "w_pre"); (with_reducible apply WS.set); repeat' (first | (with_reducible apply t1) | wtm_at "ev_core")); all_goals ((wtm_at "w_norm"))
    ((wtm_at "w_pre"); (with_reducible apply WS.set); repeat' (first | (with_reducible apply add1) | wtm_at "ev_core")); all_goals ((wtm_at "w_norm"))
    ((wtm_at "w_pre"); (with_reducible apply WS.app); repeat' (first | wtm_at "ev_core")); all_goals ((wtm_at "w_norm"))
    ((wtm_at "w_pre"); with_reducible apply WS.fin)
    refine hN _ _ w' (by omega) ⟨k + 1, by omega, ?_, rfl⟩
    rw [List.range_succ (n := k + 1)]
    simp
  · intro hge
    have hge := of_decide_eq_false hge
    have hkT : k = T := by omega
    subst hkT
    clear hN hR hBad hge
    have r0 : ∀ i, i < k + 1 → ((List.range (k + 1)).map fun i => eW (haveN zs n i))[i]? = some (eW (haveN zs n i)) := fun i hi => by simp [hi]
    generalize hRC : Cell.lst ((List.range (k + 1)).map fun i => eW (haveN zs n i)) = RC
    have at1 : ∀ c : Cell, ([c, RC] : Mem)[1]? = some (.lst ((List.range (k + 1)).map fun i => eW (haveN zs n i))) := fun c => by rw [← hRC]; rfl
    have gR : ∀ {B : Nat} {c : Cell}, PC sc B c → GoodM [c, RC] := fun {B c} p => by
      have a : GoodM [c] := ⟨by simp [PC.below p], by simp [PC.noX p]⟩
      have := a.app (c := RC) (by rw [← hRC]; exact cl_cell (cl_map (fun i => cl_lst (cl_nD _)) _) _) (by rw [← hRC]; exact cl_cellx (cl_map (fun i => cl_lst (cl_nD _)) _))
      exact this
    have ixR : ∀ (c : Cell) (i : Nat), i < k → dIx (.obj 1) (.int (i : Int)) [c, RC] = .ok (eW (haveN zs n i)) [c, RC] := fun c i hi => lf_ixo (at1 c) (r0 i (by omega))
    have tm7 := tm [c7, RC] (gR p7).b
    ((wtm_at "w_pre"); (with_reducible apply WS.if_f); repeat' (first | (with_reducible exact tm7) | (with_reducible apply sI) | wtm_at "ev_core")); all_goals ((wtm_at "w_norm"))
    · rfl
    have sH := fun i => sL (haveN zs n i) (by rw [hl]; omega)
    ((wtm_at "w_pre"); (with_reducible apply WS.forA (I := fun j ρ μ' => ∃ c y4 y5 y13, PC sc (100 + 5 * j) c ∧ μ' = [c, RC] ∧ ρ = [some (.sq (sc.map D.int)), some (.obj 0), some (.int (m : Int)), some (.lst ((lexN m).map eW)), y4, y5, some (.int (big : Int)), some (.lst (nD zs)), some y8, some (.lst (nD (List.range n))), some (eW (haveN zs n k)), some (.int (k : Int)), some (.obj 1), y13, none, none, none])); repeat' (first | wtm_at "ev_core"))
    · exact ⟨c7, y4, y5, none, p7.up (by omega), rfl, rfl⟩
    · rintro j x ρ μ' Q2 hx hN2 _ ⟨c, y4, y5, y13, pc, rfl, rfl⟩
      have hj : j < 4 := by have := (List.getElem?_eq_some_iff.mp hx).1; simpa using this
      obtain ⟨a1, ca, ha1, pa, da⟩ := drawC pc (by omega) (many := 2 * (k : Int) + 2) (by omega) (by omega)
      obtain ⟨a2, cb, ha2, pb, db⟩ := drawC pa (by omega) (many := 99) (by decide) (by decide)
      obtain ⟨r, cc, d, hd, pd, dd⟩ := pickC pb (by omega) [.int (a1 : Int), .int 1000000000000000000, .int (1000000000000000 + (a2 : Int))] (by simp) (by simp)
      obtain ⟨v, rfl, hv⟩ : ∃ v : Nat, d = .int (v : Int) ∧ v ≤ 10 ^ 18 := by
        have hr : r < 3 := by have := (List.getElem?_eq_some_iff.mp hd).1; simpa using this
        obtain rfl | rfl | rfl : r = 0 ∨ r = 1 ∨ r = 2 := by omega
        · cases hd; exact ⟨a1, rfl, by omega⟩
        · cases hd; exact ⟨1000000000000000000, rfl, by omega⟩
        · cases hd
          refine ⟨1000000000000000 + a2, ?_, by omega⟩
          congr 1
      have ea := da [RC]
      have eb := db [RC]
      have ed := dd [RC]
      have ml : ∀ μ, dMul (.int 2) (.int (k : Int)) μ = .ok (.int (2 * (k : Int))) μ := fun μ => lf_mul (by decide) (by rw [Int.natAbs_natCast]; omega)
      have of' := often_ok O hn hv [cc, RC] (gR pd).b
      rw [hmod v] at of'
      have hvk := Nat.mod_lt v tpos
      have md : ∀ μ, dMod (.int (v : Int)) (.int (k : Int)) μ = .ok (.int ((v % k : Nat) : Int)) μ := fun μ => by rw [lf_mod (by omega)]; rfl
      have iv := ixR cc (v % k) hvk
      refine ⟨_, rfl, ?_⟩; (with_reducible apply WS.tail); (wtm_at "w_norm")
      ((wtm_at "w_pre"); (with_reducible apply WS.set); repeat' (first | (with_reducible apply ml) | (with_reducible exact ea) | (with_reducible apply pow18) | (with_reducible apply pow15) | (with_reducible exact eb) | (with_reducible exact ed) | wtm_at "ev_core")); all_goals ((wtm_at "w_norm"))
      ((wtm_at "w_pre"); (with_reducible apply WS.if_f); repeat' (first | (with_reducible exact of') | (with_reducible apply md) | (with_reducible exact iv) | (with_reducible exact sH _ _) | wtm_at "ev_core")); all_goals ((wtm_at "w_norm"))
      · rfl
      ((wtm_at "w_pre"); with_reducible apply WS.fin)
      exact hN2 _ _ trivial ⟨cc, _, _, _, pd.up (by omega), rfl, rfl⟩
    rintro ρ μ' ⟨c8, y4', y5', y13, p8, rfl, rfl⟩
    rw [List.length_range] at p8
    -- a riffle
    obtain ⟨t, c9, ht, p9, d9⟩ := drawC p8 (by omega) (many := 12) (by decide) (by decide)
    have e9 := d9 [RC]
    have ht : t < 12 := by omega
    have g9 := (gR p9).b
    have dv : ∀ μ, dDiv (.int ((t + 1 : Nat) : Int)) (.int 2) μ = .ok (.int (((t + 1) / 2 : Nat) : Int)) μ := fun μ => by rw [lf_div (by decide) (by decide)]; rfl
    ((wtm_at "w_pre"); (with_reducible apply WS.set); repeat' (first | (with_reducible exact e9) | wtm_at "ev_core")); all_goals ((wtm_at "w_norm"))
    ((wtm_at "w_pre"); (with_reducible apply WS.set); repeat' (first | (with_reducible apply ev_rgL1) | wtm_at "ev_core")); all_goals ((wtm_at "w_norm"))
    ((wtm_at "w_pre"); (with_reducible apply WS.set); repeat' (first | (with_reducible apply add1) | (with_reducible apply dv) | wtm_at "ev_core")); all_goals ((wtm_at "w_norm"))
    ((wtm_at "w_pre"); (with_reducible apply WS.set); repeat' (first | wtm_at "ev_core")); all_goals ((wtm_at "w_norm"))
    generalize hh : (t + 1) / 2 = half
    have hht : half ≤ t ∧ half ≤ 6 := by omega
    ((wtm_at "w_pre"); (with_reducible apply WS.forA (I := fun j ρ μ' => μ' = [c9, RC] ∧ ∃ y4, ρ = [some (.sq (sc.map D.int)), some (.obj 0), some (.int (m : Int)), some (.lst ((lexN m).map eW)), y4, y5', some (.int (big : Int)), some (.lst (nD zs)), some y8, some (.lst (nD (List.range n))), some (eW (haveN zs n k)), some (.int (k : Int)), some (.obj 1), some (.int (t : Int)), some (.lst (nD (List.range t))), some (.int (half : Int)), some (.lst (nD ((List.range j).flatMap fun i => (List.range t).getD i 0 :: ((List.range t).drop (half + i)).take 1)))])); repeat' (first | wtm_at "ev_core"))
    · exact ⟨rfl, _, rfl⟩
    · rintro j x ρ μ' Q2 hx hN2 _ ⟨rfl, y4, rfl⟩
      have hj : j < half := by have := (List.getElem?_eq_some_iff.mp hx).1; simpa using this
      have hxj : x = j := by have := (List.getElem?_eq_some_iff.mp hx).2; simpa using this.symm
      subst hxj
      have hN2 := fun y4 => hN2 [some (.sq (sc.map D.int)), some (.obj 0), some (.int (m : Int)), some (.lst ((lexN m).map eW)), y4, y5', some (.int (big : Int)), some (.lst (nD zs)), some y8, some (.lst (nD (List.range n))), some (eW (haveN zs n k)), some (.int (k : Int)), some (.obj 1), some (.int (t : Int)), some (.lst (nD (List.range t))), some (.int (half : Int)), some (.lst (nD ((List.range (x + 1)).flatMap fun i => (List.range t).getD i 0 :: ((List.range t).drop (half + i)).take 1)))] [c9, RC] trivial ⟨rfl, y4, rfl⟩
      rw [List.range_succ, List.flatMap_append] at hN2
      have hlen : ∀ l : List Nat, (l.flatMap fun i => (List.range t).getD i 0 :: ((List.range t).drop (half + i)).take 1).length ≤ l.length * 2 := fun l => by
        induction l with
        | nil => simp
        | cons a l ih => rw [List.flatMap_cons, List.length_append, List.length_cons, List.length_cons, List.length_take]; omega
      have hx2 := hlen (List.range x)
      rw [List.length_range] at hx2
      generalize hP : (List.range x).flatMap (fun i => (List.range t).getD i 0 :: ((List.range t).drop (half + i)).take 1) = P at hx2 hN2
      have ixc := fun μ => ixN (xs := List.range t) (a := x) (by rw [List.length_range]; omega) μ
      have st : fTree (fCat (fTree (fCat (fV 16) (fTree (fItems (fCons (fIx (fV 14) (fV 4)) fNil))))) (fTree (fSlL (fV 14) (oSome (fOp2 dAdd (fV 15) (fV 4))) (oSome (fOp2 dAdd (fOp2 dAdd (fV 15) (fV 4)) (fC (.int 1))))))) [some (.sq (sc.map D.int)), some (.obj 0), some (.int (m : Int)), some (.lst ((lexN m).map eW)), some (.int (x : Int)), y5', some (.int (big : Int)), some (.lst (nD zs)), some y8, some (.lst (nD (List.range n))), some (eW (haveN zs n k)), some (.int (k : Int)), some (.obj 1), some (.int (t : Int)), some (.lst (nD (List.range t))), some (.int (half : Int)), some (.lst (nD P))] [c9, RC] = .ok (.lst (nD (P ++ ((List.range t).getD x 0 :: ((List.range t).drop (half + x)).take 1)))) [c9, RC] := by
        have e : nD (P ++ ((List.range t).getD x 0 :: ((List.range t).drop (half + x)).take 1)) = (nD P ++ [.int ((List.range t).getD x 0 : Nat)]) ++ ((nD (List.range t)).drop (half + x)).take (half + x + 1 - (half + x)) := by
          rw [show half + x + 1 - (half + x) = 1 by omega]
          unfold nD; simp
        rw [e]
        refine ev_tree (ev_catL (ev_tree (ev_catL (ev_v rfl) (ev_tree (ev_items (ev_cons (ev_ix (ev_v rfl) (ev_v rfl) (ixc _)) ev_nil) (by simp))) rfl rfl ?_)) (ev_tree (ev_slM (ev_v rfl) (ev_osome (ev_op2 (ev_v rfl) (ev_v rfl) (ad _ _ _))) (ev_osome (ev_op2 (ev_op2 (ev_v rfl) (ev_v rfl) (ad _ _ _)) ev_c (add1 _ _))) rfl)) rfl rfl ?_)
        · simp; omega
        · simp; omega
      refine ⟨_, rfl, ?_⟩; (with_reducible apply WS.tail); (wtm_at "w_norm")
      ((wtm_at "w_pre"); (with_reducible apply WS.set); repeat' (first | (with_reducible exact st) | wtm_at "ev_core")); all_goals ((wtm_at "w_norm"))
      ((wtm_at "w_pre"); with_reducible apply WS.fin)
      have := hN2 (some (.int (x : Int)))
      simpa using this
    rintro ρ μ' ⟨rfl, y4'', rfl⟩
    rw [List.length_range]
    have rf := riffle_ok t ht
    rw [Bool.and_eq_true, decide_eq_true_eq] at rf
    obtain ⟨rf1, rf2⟩ := rf
    have R := ord_perm (List.isPerm_iff.mp rf1)
    have ro := riffle_ok' (n := t) (by omega) [c9, RC] g9
    have so := shuf_ok (cs := List.range t) R (by omega) (by simp) [c9, RC] g9
    rw [rf2] at so
    unfold dueN at so
    rw [hh] at so
    have hdl : ((List.range half).flatMap fun i => (List.range t).getD i 0 :: ((List.range t).drop (half + i)).take 1).length ≤ 1000 := by
      have key : ∀ l : List Nat, (l.flatMap fun i => (List.range t).getD i 0 :: ((List.range t).drop (half + i)).take 1).length ≤ l.length * 2 := fun l => by
        induction l with
        | nil => simp
        | cons a l ih => rw [List.flatMap_cons, List.length_append, List.length_cons, List.length_cons, List.length_take]; omega
      have := key (List.range half)
      rw [List.length_range] at this
      omega
    have sD := sL _ hdl [c9, RC]
    ((wtm_at "w_pre"); (with_reducible apply WS.if_f); repeat' (first | (with_reducible exact ro) | (with_reducible exact so) | (with_reducible exact sD) | wtm_at "ev_core")); all_goals ((wtm_at "w_norm"))
    · rfl
    have lnE : ∀ μ, dLen [.lst ((lexN m).map eW)] μ = .ok (.int (fac m : Nat)) μ := fun μ => by rw [len_lst, List.length_map, ll]
    obtain ⟨q1, cA, dA, hdA, pA, eA⟩ := pickC p9 (by omega) [.int (-1), .int (fac m : Nat), .bl true] (by simp) (by simp)
    have numA : ∀ μ, S_is_number [dA, .int 0, .int (((fac m : Nat) : Int) - 1)] μ = .ok (.bl false) μ := fun μ => by
      have hr : q1 < 3 := by have := (List.getElem?_eq_some_iff.mp hdA).1; simpa using this
      obtain rfl | rfl | rfl : q1 = 0 ∨ q1 = 1 ∨ q1 = 2 := by omega
      · cases hdA; rw [isnum_ok]; rfl
      · cases hdA
        rw [isnum_ok]
        have : (decide ((0 : Int) ≤ ((fac m : Nat) : Int)) && decide (((fac m : Nat) : Int) ≤ ((fac m : Nat) : Int) - 1)) = false := by
          rw [Bool.and_eq_false_iff, decide_eq_false_iff_not, decide_eq_false_iff_not]; omega
        rw [this]
      · cases hdA; exact isnum_bl _ _ _ _
    have eA := eA [RC]
    have xA := (gR pA).x
    have rA := refused0 (n := .int (m : Int)) (d := dA) [cA, RC] xA fun μ => at_exc (by omega) numA μ
    have rB := refused0 (n := .int 21) (d := .int 0) [cA, RC] xA fun μ => at_exc2 μ
    have nw : ∀ μ, dNe (.str (Str.ofString "number")) (.str (Str.ofString "number")) μ = some false := fun μ => by rw [lf_ne_str]; simp
    ((wtm_at "w_pre"); (with_reducible apply WS.if_f); repeat' (first | (with_reducible apply lnE) | (with_reducible exact eA) | (with_reducible exact rA) | (with_reducible exact rB) | (with_reducible apply nw) | wtm_at "ev_core")); all_goals ((wtm_at "w_norm"))
    · rfl
    obtain ⟨q2, cB, dB, hdB, pB, eB⟩ := pickC pA (by omega) [.int (-1), .int (1000000000000000000 + 1), .bl true] (by simp) (by simp)
    have numB : ∀ μ, S_is_number [dB, .int 0, .int (10 ^ (18 : Int).toNat)] μ = .ok (.bl false) μ := fun μ => by
      have hr : q2 < 3 := by have := (List.getElem?_eq_some_iff.mp hdB).1; simpa using this
      obtain rfl | rfl | rfl : q2 = 0 ∨ q2 = 1 ∨ q2 = 2 := by omega
      · cases hdB; rw [isnum_ok]; rfl
      · cases hdB; rw [isnum_ok]; rfl
      · cases hdB; exact isnum_bl _ _ _ _
    have eB := eB [RC]
    have xB := (gR pB).x
    have rC := refused2 (n := .int 0) (d := dB) [cB, RC] xB (often_exc numB _ (gR pB).b)
    ((wtm_at "w_pre"); (with_reducible apply WS.if_f); repeat' (first | (with_reducible apply pow18) | (with_reducible exact eB) | (with_reducible exact rC) | (with_reducible apply nw) | wtm_at "ev_core")); all_goals ((wtm_at "w_norm"))
    have rD := refused1 (n := .int 0) (d := .lst (nD (List.range 21))) [cB, RC] xB (place_exc _ (gR pB).b)
    have rg21 : ∀ (ρ : Z.Env) (μ : Mem), fTree (fRgL1 (fC (.int 21))) ρ μ = .ok (.lst (nD (List.range 21))) μ := fun ρ μ => ev_tree (ev_rgL1 (n := 21) rfl (by decide))
    have pw : ∀ μ, dEq (.str (Str.ofString "paper")) (.str (Str.ofString "paper")) μ = some true := fun μ => by rw [dEq_str]; simp
    ((wtm_at "w_pre"); (with_reducible apply WS.ret); repeat' (first | (with_reducible exact rg21 _ _) | (with_reducible exact rD) | (with_reducible apply pw) | wtm_at "ev_core")); (try (with_reducible rfl))
    subst hQ
    exact clean_law _
end K77

namespace K77
open PySem PySem.Spec PyProof.Rows L2 Z
theorem all_mk {P : Program} {w : World} {K : PySem.W.Frag} {h : Heap} {mg : Str → Option Value} {fa : Addr} (X : K.In h) (G : h.Ns mainGlobals mg) (hfa : mg "law" = some (.ref fa)) {f_is_number f__law_pool f__law_draw f__law_then f__law_all f_checked_number f_checked_order f__law_pick f__law_order f_shuffled f_rings f_place_of f_order_at f_next_order f_riffle f_times f_often f__law_refused f__law_same f_law : Addr} {a_InnError a_InvalidNumber a_TooMany a_InvalidPaper : Addr}
  {oc_is_number kV_is_number dc_is_number pm_is_number cd_is_number ct_is_number : Value} {od_is_number an_is_number : Option Addr} {sl_is_number : Array (Option Value)}
  {oc__law_pool kV__law_pool dc__law_pool pm__law_pool cd__law_pool ct__law_pool : Value} {od__law_pool an__law_pool : Option Addr} {sl__law_pool : Array (Option Value)}
  {oc__law_draw kV__law_draw dc__law_draw pm__law_draw cd__law_draw ct__law_draw : Value} {od__law_draw an__law_draw : Option Addr} {sl__law_draw : Array (Option Value)}
  {oc__law_then kV__law_then dc__law_then pm__law_then cd__law_then ct__law_then : Value} {od__law_then an__law_then : Option Addr} {sl__law_then : Array (Option Value)}
  {oc__law_all kV__law_all dc__law_all pm__law_all cd__law_all ct__law_all : Value} {od__law_all an__law_all : Option Addr} {sl__law_all : Array (Option Value)}
  {oc_checked_number kV_checked_number dc_checked_number pm_checked_number cd_checked_number ct_checked_number : Value} {od_checked_number an_checked_number : Option Addr} {sl_checked_number : Array (Option Value)}
  {oc_checked_order kV_checked_order dc_checked_order pm_checked_order cd_checked_order ct_checked_order : Value} {od_checked_order an_checked_order : Option Addr} {sl_checked_order : Array (Option Value)}
  {oc__law_pick kV__law_pick dc__law_pick pm__law_pick cd__law_pick ct__law_pick : Value} {od__law_pick an__law_pick : Option Addr} {sl__law_pick : Array (Option Value)}
  {oc__law_order kV__law_order dc__law_order pm__law_order cd__law_order ct__law_order : Value} {od__law_order an__law_order : Option Addr} {sl__law_order : Array (Option Value)}
  {oc_shuffled kV_shuffled dc_shuffled pm_shuffled cd_shuffled ct_shuffled : Value} {od_shuffled an_shuffled : Option Addr} {sl_shuffled : Array (Option Value)}
  {oc_rings kV_rings dc_rings pm_rings cd_rings ct_rings : Value} {od_rings an_rings : Option Addr} {sl_rings : Array (Option Value)}
  {oc_place_of kV_place_of dc_place_of pm_place_of cd_place_of ct_place_of : Value} {od_place_of an_place_of : Option Addr} {sl_place_of : Array (Option Value)}
  {oc_order_at kV_order_at dc_order_at pm_order_at cd_order_at ct_order_at : Value} {od_order_at an_order_at : Option Addr} {sl_order_at : Array (Option Value)}
  {oc_next_order kV_next_order dc_next_order pm_next_order cd_next_order ct_next_order : Value} {od_next_order an_next_order : Option Addr} {sl_next_order : Array (Option Value)}
  {oc_riffle kV_riffle dc_riffle pm_riffle cd_riffle ct_riffle : Value} {od_riffle an_riffle : Option Addr} {sl_riffle : Array (Option Value)}
  {oc_times kV_times dc_times pm_times cd_times ct_times : Value} {od_times an_times : Option Addr} {sl_times : Array (Option Value)}
  {oc_often kV_often dc_often pm_often cd_often ct_often : Value} {od_often an_often : Option Addr} {sl_often : Array (Option Value)}
  {oc__law_refused kV__law_refused dc__law_refused pm__law_refused cd__law_refused ct__law_refused : Value} {od__law_refused an__law_refused : Option Addr} {sl__law_refused : Array (Option Value)}
  {oc__law_same kV__law_same dc__law_same pm__law_same cd__law_same ct__law_same : Value} {od__law_same an__law_same : Option Addr} {sl__law_same : Array (Option Value)}
  {oc_law kV_law dc_law pm_law cd_law ct_law : Value} {od_law an_law : Option Addr} {sl_law : Array (Option Value)}
  {T_is_number : Addr} {oT_is_number : Option Addr} {nT_is_number : Nat} {sT_is_number : Array (Option Value)} {t0_is_number : Tok} {t1_is_number : Tok} (h5_is_number : K.lookup T_is_number = some ⟨.type "tuple", oT_is_number, .seq #[.int 0 t0_is_number, .int 1000000 t1_is_number] nT_is_number, sT_is_number⟩)
  (h1_is_number : PySem.W.nsIn K mainGlobals "is_number" = some (some (.ref f_is_number))) (h2_is_number : K.lookup f_is_number = some ⟨oc_is_number, od_is_number, .func (PySem.W.fnOf "is_number" "is_number" (defArgs s_is_number) (defBody s_is_number) (defScope s_is_number) (.ref T_is_number) kV_is_number dc_is_number pm_is_number an_is_number cd_is_number ct_is_number), sl_is_number⟩) (h3_is_number : PySem.W.codeIn K cd_is_number "is_number" = true) (h4_is_number : PySem.W.keepIn K (.ref f_is_number) = true)
  (h1__law_pool : PySem.W.nsIn K mainGlobals "_law_pool" = some (some (.ref f__law_pool))) (h2__law_pool : K.lookup f__law_pool = some ⟨oc__law_pool, od__law_pool, .func (PySem.W.fnOf "_law_pool" "_law_pool" (defArgs s__law_pool) (defBody s__law_pool) (defScope s__law_pool) .none kV__law_pool dc__law_pool pm__law_pool an__law_pool cd__law_pool ct__law_pool), sl__law_pool⟩) (h3__law_pool : PySem.W.codeIn K cd__law_pool "_law_pool" = true) (h4__law_pool : PySem.W.keepIn K (.ref f__law_pool) = true)
  (h1__law_draw : PySem.W.nsIn K mainGlobals "_law_draw" = some (some (.ref f__law_draw))) (h2__law_draw : K.lookup f__law_draw = some ⟨oc__law_draw, od__law_draw, .func (PySem.W.fnOf "_law_draw" "_law_draw" (defArgs s__law_draw) (defBody s__law_draw) (defScope s__law_draw) .none kV__law_draw dc__law_draw pm__law_draw an__law_draw cd__law_draw ct__law_draw), sl__law_draw⟩) (h3__law_draw : PySem.W.codeIn K cd__law_draw "_law_draw" = true) (h4__law_draw : PySem.W.keepIn K (.ref f__law_draw) = true)
  (h1__law_then : PySem.W.nsIn K mainGlobals "_law_then" = some (some (.ref f__law_then))) (h2__law_then : K.lookup f__law_then = some ⟨oc__law_then, od__law_then, .func (PySem.W.fnOf "_law_then" "_law_then" (defArgs s__law_then) (defBody s__law_then) (defScope s__law_then) .none kV__law_then dc__law_then pm__law_then an__law_then cd__law_then ct__law_then), sl__law_then⟩) (h3__law_then : PySem.W.codeIn K cd__law_then "_law_then" = true) (h4__law_then : PySem.W.keepIn K (.ref f__law_then) = true)
  (h1__law_all : PySem.W.nsIn K mainGlobals "_law_all" = some (some (.ref f__law_all))) (h2__law_all : K.lookup f__law_all = some ⟨oc__law_all, od__law_all, .func (PySem.W.fnOf "_law_all" "_law_all" (defArgs s__law_all) (defBody s__law_all) (defScope s__law_all) .none kV__law_all dc__law_all pm__law_all an__law_all cd__law_all ct__law_all), sl__law_all⟩) (h3__law_all : PySem.W.codeIn K cd__law_all "_law_all" = true) (h4__law_all : PySem.W.keepIn K (.ref f__law_all) = true)
  {T_checked_number : Addr} {oT_checked_number : Option Addr} {nT_checked_number : Nat} {sT_checked_number : Array (Option Value)} {t0_checked_number : Tok} {t1_checked_number : Tok} (h5_checked_number : K.lookup T_checked_number = some ⟨.type "tuple", oT_checked_number, .seq #[.int 0 t0_checked_number, .int 1000000 t1_checked_number] nT_checked_number, sT_checked_number⟩)
  (h1_checked_number : PySem.W.nsIn K mainGlobals "checked_number" = some (some (.ref f_checked_number))) (h2_checked_number : K.lookup f_checked_number = some ⟨oc_checked_number, od_checked_number, .func (PySem.W.fnOf "checked_number" "checked_number" (defArgs s_checked_number) (defBody s_checked_number) (defScope s_checked_number) (.ref T_checked_number) kV_checked_number dc_checked_number pm_checked_number an_checked_number cd_checked_number ct_checked_number), sl_checked_number⟩) (h3_checked_number : PySem.W.codeIn K cd_checked_number "checked_number" = true) (h4_checked_number : PySem.W.keepIn K (.ref f_checked_number) = true)
  (h1_checked_order : PySem.W.nsIn K mainGlobals "checked_order" = some (some (.ref f_checked_order))) (h2_checked_order : K.lookup f_checked_order = some ⟨oc_checked_order, od_checked_order, .func (PySem.W.fnOf "checked_order" "checked_order" (defArgs s_checked_order) (defBody s_checked_order) (defScope s_checked_order) .none kV_checked_order dc_checked_order pm_checked_order an_checked_order cd_checked_order ct_checked_order), sl_checked_order⟩) (h3_checked_order : PySem.W.codeIn K cd_checked_order "checked_order" = true) (h4_checked_order : PySem.W.keepIn K (.ref f_checked_order) = true)
  (h1__law_pick : PySem.W.nsIn K mainGlobals "_law_pick" = some (some (.ref f__law_pick))) (h2__law_pick : K.lookup f__law_pick = some ⟨oc__law_pick, od__law_pick, .func (PySem.W.fnOf "_law_pick" "_law_pick" (defArgs s__law_pick) (defBody s__law_pick) (defScope s__law_pick) .none kV__law_pick dc__law_pick pm__law_pick an__law_pick cd__law_pick ct__law_pick), sl__law_pick⟩) (h3__law_pick : PySem.W.codeIn K cd__law_pick "_law_pick" = true) (h4__law_pick : PySem.W.keepIn K (.ref f__law_pick) = true)
  (h1__law_order : PySem.W.nsIn K mainGlobals "_law_order" = some (some (.ref f__law_order))) (h2__law_order : K.lookup f__law_order = some ⟨oc__law_order, od__law_order, .func (PySem.W.fnOf "_law_order" "_law_order" (defArgs s__law_order) (defBody s__law_order) (defScope s__law_order) .none kV__law_order dc__law_order pm__law_order an__law_order cd__law_order ct__law_order), sl__law_order⟩) (h3__law_order : PySem.W.codeIn K cd__law_order "_law_order" = true) (h4__law_order : PySem.W.keepIn K (.ref f__law_order) = true)
  (h1_shuffled : PySem.W.nsIn K mainGlobals "shuffled" = some (some (.ref f_shuffled))) (h2_shuffled : K.lookup f_shuffled = some ⟨oc_shuffled, od_shuffled, .func (PySem.W.fnOf "shuffled" "shuffled" (defArgs s_shuffled) (defBody s_shuffled) (defScope s_shuffled) .none kV_shuffled dc_shuffled pm_shuffled an_shuffled cd_shuffled ct_shuffled), sl_shuffled⟩) (h3_shuffled : PySem.W.codeIn K cd_shuffled "shuffled" = true) (h4_shuffled : PySem.W.keepIn K (.ref f_shuffled) = true)
  (h1_rings : PySem.W.nsIn K mainGlobals "rings" = some (some (.ref f_rings))) (h2_rings : K.lookup f_rings = some ⟨oc_rings, od_rings, .func (PySem.W.fnOf "rings" "rings" (defArgs s_rings) (defBody s_rings) (defScope s_rings) .none kV_rings dc_rings pm_rings an_rings cd_rings ct_rings), sl_rings⟩) (h3_rings : PySem.W.codeIn K cd_rings "rings" = true) (h4_rings : PySem.W.keepIn K (.ref f_rings) = true)
  (h1_place_of : PySem.W.nsIn K mainGlobals "place_of" = some (some (.ref f_place_of))) (h2_place_of : K.lookup f_place_of = some ⟨oc_place_of, od_place_of, .func (PySem.W.fnOf "place_of" "place_of" (defArgs s_place_of) (defBody s_place_of) (defScope s_place_of) .none kV_place_of dc_place_of pm_place_of an_place_of cd_place_of ct_place_of), sl_place_of⟩) (h3_place_of : PySem.W.codeIn K cd_place_of "place_of" = true) (h4_place_of : PySem.W.keepIn K (.ref f_place_of) = true)
  (h1_order_at : PySem.W.nsIn K mainGlobals "order_at" = some (some (.ref f_order_at))) (h2_order_at : K.lookup f_order_at = some ⟨oc_order_at, od_order_at, .func (PySem.W.fnOf "order_at" "order_at" (defArgs s_order_at) (defBody s_order_at) (defScope s_order_at) .none kV_order_at dc_order_at pm_order_at an_order_at cd_order_at ct_order_at), sl_order_at⟩) (h3_order_at : PySem.W.codeIn K cd_order_at "order_at" = true) (h4_order_at : PySem.W.keepIn K (.ref f_order_at) = true)
  (h1_next_order : PySem.W.nsIn K mainGlobals "next_order" = some (some (.ref f_next_order))) (h2_next_order : K.lookup f_next_order = some ⟨oc_next_order, od_next_order, .func (PySem.W.fnOf "next_order" "next_order" (defArgs s_next_order) (defBody s_next_order) (defScope s_next_order) .none kV_next_order dc_next_order pm_next_order an_next_order cd_next_order ct_next_order), sl_next_order⟩) (h3_next_order : PySem.W.codeIn K cd_next_order "next_order" = true) (h4_next_order : PySem.W.keepIn K (.ref f_next_order) = true)
  (h1_riffle : PySem.W.nsIn K mainGlobals "riffle" = some (some (.ref f_riffle))) (h2_riffle : K.lookup f_riffle = some ⟨oc_riffle, od_riffle, .func (PySem.W.fnOf "riffle" "riffle" (defArgs s_riffle) (defBody s_riffle) (defScope s_riffle) .none kV_riffle dc_riffle pm_riffle an_riffle cd_riffle ct_riffle), sl_riffle⟩) (h3_riffle : PySem.W.codeIn K cd_riffle "riffle" = true) (h4_riffle : PySem.W.keepIn K (.ref f_riffle) = true)
  (h1_times : PySem.W.nsIn K mainGlobals "times" = some (some (.ref f_times))) (h2_times : K.lookup f_times = some ⟨oc_times, od_times, .func (PySem.W.fnOf "times" "times" (defArgs s_times) (defBody s_times) (defScope s_times) .none kV_times dc_times pm_times an_times cd_times ct_times), sl_times⟩) (h3_times : PySem.W.codeIn K cd_times "times" = true) (h4_times : PySem.W.keepIn K (.ref f_times) = true)
  (h1_often : PySem.W.nsIn K mainGlobals "often" = some (some (.ref f_often))) (h2_often : K.lookup f_often = some ⟨oc_often, od_often, .func (PySem.W.fnOf "often" "often" (defArgs s_often) (defBody s_often) (defScope s_often) .none kV_often dc_often pm_often an_often cd_often ct_often), sl_often⟩) (h3_often : PySem.W.codeIn K cd_often "often" = true) (h4_often : PySem.W.keepIn K (.ref f_often) = true)
  (h1__law_refused : PySem.W.nsIn K mainGlobals "_law_refused" = some (some (.ref f__law_refused))) (h2__law_refused : K.lookup f__law_refused = some ⟨oc__law_refused, od__law_refused, .func (PySem.W.fnOf "_law_refused" "_law_refused" (defArgs s__law_refused) (defBody s__law_refused) (defScope s__law_refused) .none kV__law_refused dc__law_refused pm__law_refused an__law_refused cd__law_refused ct__law_refused), sl__law_refused⟩) (h3__law_refused : PySem.W.codeIn K cd__law_refused "_law_refused" = true) (h4__law_refused : PySem.W.keepIn K (.ref f__law_refused) = true)
  (h1__law_same : PySem.W.nsIn K mainGlobals "_law_same" = some (some (.ref f__law_same))) (h2__law_same : K.lookup f__law_same = some ⟨oc__law_same, od__law_same, .func (PySem.W.fnOf "_law_same" "_law_same" (defArgs s__law_same) (defBody s__law_same) (defScope s__law_same) .none kV__law_same dc__law_same pm__law_same an__law_same cd__law_same ct__law_same), sl__law_same⟩) (h3__law_same : PySem.W.codeIn K cd__law_same "_law_same" = true) (h4__law_same : PySem.W.keepIn K (.ref f__law_same) = true)
  (h1_law : PySem.W.nsIn K mainGlobals "law" = some (some (.ref f_law))) (h2_law : K.lookup f_law = some ⟨oc_law, od_law, .func (PySem.W.fnOf "law" "law" (defArgs s_law) (defBody s_law) (defScope s_law) .none kV_law dc_law pm_law an_law cd_law ct_law), sl_law⟩) (h3_law : PySem.W.codeIn K cd_law "law" = true) (h4_law : PySem.W.keepIn K (.ref f_law) = true)
  (z_isinstance : PySem.W.nsIn K mainGlobals "isinstance" = some none)
  (z_bool : PySem.W.nsIn K mainGlobals "bool" = some none)
  (z_int : PySem.W.nsIn K mainGlobals "int" = some none)
  (z_str : PySem.W.nsIn K mainGlobals "str" = some none)
  (z_len : PySem.W.nsIn K mainGlobals "len" = some none)
  (z_range : PySem.W.nsIn K mainGlobals "range" = some none)
  (z_list : PySem.W.nsIn K mainGlobals "list" = some none)
  (z_reversed : PySem.W.nsIn K mainGlobals "reversed" = some none)
  (z_tuple : PySem.W.nsIn K mainGlobals "tuple" = some none)
  (z_abs : PySem.W.nsIn K mainGlobals "abs" = some none)
  (z_sorted : PySem.W.nsIn K mainGlobals "sorted" = some none)
  (z_ValueError : PySem.W.nsIn K mainGlobals "ValueError" = some none)
  {u_MOST : Tok} (k_MOST : PySem.W.nsIn K mainGlobals "MOST" = some (some (.int 40 u_MOST)))
  (y1_InnError : PySem.W.nsIn K mainGlobals "InnError" = some (some (.ref a_InnError))) (y2_InnError : PySem.W.subIn K (.ref a_InnError) (.type "BaseException") = some true) (y3_InnError : PySem.W.typeIn K (.ref a_InnError) = some (.type "type"))
  (y6_InnError : PySem.W.hasDictIn K a_InnError = true)
  (y7_InvalidNumber_InnError : PySem.W.subIn K (.ref a_InvalidNumber) (.ref a_InnError) = some true)
  (y7_TooMany_InnError : PySem.W.subIn K (.ref a_TooMany) (.ref a_InnError) = some true)
  (y7_InvalidPaper_InnError : PySem.W.subIn K (.ref a_InvalidPaper) (.ref a_InnError) = some true)
  (y7_InnError_InnError : PySem.W.subIn K (.ref a_InnError) (.ref a_InnError) = some true)
  (y1_InvalidNumber : PySem.W.nsIn K mainGlobals "InvalidNumber" = some (some (.ref a_InvalidNumber))) (y2_InvalidNumber : PySem.W.subIn K (.ref a_InvalidNumber) (.type "BaseException") = some true) (y3_InvalidNumber : PySem.W.typeIn K (.ref a_InvalidNumber) = some (.type "type"))
  (y4_InvalidNumber : PySem.W.excIn K a_InvalidNumber [.type "ValueError", .type "Exception", .type "BaseException", .type "object"] "ValueError.__new__" = true) (y5_InvalidNumber : PySem.W.keepIn K (.ref a_InvalidNumber) = true)
  (y6_InvalidNumber : PySem.W.hasDictIn K a_InvalidNumber = true)
  (y7_InvalidNumber_InvalidNumber : PySem.W.subIn K (.ref a_InvalidNumber) (.ref a_InvalidNumber) = some true)
  (y7_TooMany_InvalidNumber : PySem.W.subIn K (.ref a_TooMany) (.ref a_InvalidNumber) = some false)
  (y7_InvalidPaper_InvalidNumber : PySem.W.subIn K (.ref a_InvalidPaper) (.ref a_InvalidNumber) = some false)
  (z1_InvalidNumber : PySem.W.findIn K (.ref a_InvalidNumber) "__getattribute__" = some (some (.builtin "BaseException.__getattribute__"))) (z2_InvalidNumber : PySem.W.findIn K (.ref a_InvalidNumber) "__getattr__" = some none) (z3_InvalidNumber : PySem.W.findIn K (.ref a_InvalidNumber) "__class__" = some (some (.builtin "object.__class__"))) (z4_InvalidNumber : PySem.W.specialIn K (.builtin "object.__class__") "__get__" = some (some (.builtin "getset_descriptor.__get__"))) (z5_InvalidNumber : PySem.W.takesIn K (.builtin "object.__class__") = some true) (z6_InvalidNumber : PySem.W.mroIn K a_InvalidNumber (.type "object") = some true)
  (z7_InvalidNumber_ValueError : PySem.W.subIn K (.ref a_InvalidNumber) (.type "ValueError") = some true)
  (y1_TooMany : PySem.W.nsIn K mainGlobals "TooMany" = some (some (.ref a_TooMany))) (y2_TooMany : PySem.W.subIn K (.ref a_TooMany) (.type "BaseException") = some true) (y3_TooMany : PySem.W.typeIn K (.ref a_TooMany) = some (.type "type"))
  (y4_TooMany : PySem.W.excIn K a_TooMany [.type "ValueError", .type "Exception", .type "BaseException", .type "object"] "ValueError.__new__" = true) (y5_TooMany : PySem.W.keepIn K (.ref a_TooMany) = true)
  (y6_TooMany : PySem.W.hasDictIn K a_TooMany = true)
  (z1_TooMany : PySem.W.findIn K (.ref a_TooMany) "__getattribute__" = some (some (.builtin "BaseException.__getattribute__"))) (z2_TooMany : PySem.W.findIn K (.ref a_TooMany) "__getattr__" = some none) (z3_TooMany : PySem.W.findIn K (.ref a_TooMany) "__class__" = some (some (.builtin "object.__class__"))) (z4_TooMany : PySem.W.specialIn K (.builtin "object.__class__") "__get__" = some (some (.builtin "getset_descriptor.__get__"))) (z5_TooMany : PySem.W.takesIn K (.builtin "object.__class__") = some true) (z6_TooMany : PySem.W.mroIn K a_TooMany (.type "object") = some true)
  (z7_TooMany_ValueError : PySem.W.subIn K (.ref a_TooMany) (.type "ValueError") = some true)
  (y1_InvalidPaper : PySem.W.nsIn K mainGlobals "InvalidPaper" = some (some (.ref a_InvalidPaper))) (y2_InvalidPaper : PySem.W.subIn K (.ref a_InvalidPaper) (.type "BaseException") = some true) (y3_InvalidPaper : PySem.W.typeIn K (.ref a_InvalidPaper) = some (.type "type"))
  (y4_InvalidPaper : PySem.W.excIn K a_InvalidPaper [.type "ValueError", .type "Exception", .type "BaseException", .type "object"] "ValueError.__new__" = true) (y5_InvalidPaper : PySem.W.keepIn K (.ref a_InvalidPaper) = true)
  (y6_InvalidPaper : PySem.W.hasDictIn K a_InvalidPaper = true)
  (y7_InvalidNumber_InvalidPaper : PySem.W.subIn K (.ref a_InvalidNumber) (.ref a_InvalidPaper) = some false)
  (y7_TooMany_InvalidPaper : PySem.W.subIn K (.ref a_TooMany) (.ref a_InvalidPaper) = some false)
  (y7_InvalidPaper_InvalidPaper : PySem.W.subIn K (.ref a_InvalidPaper) (.ref a_InvalidPaper) = some true)
  (z1_InvalidPaper : PySem.W.findIn K (.ref a_InvalidPaper) "__getattribute__" = some (some (.builtin "BaseException.__getattribute__"))) (z2_InvalidPaper : PySem.W.findIn K (.ref a_InvalidPaper) "__getattr__" = some none) (z3_InvalidPaper : PySem.W.findIn K (.ref a_InvalidPaper) "__class__" = some (some (.builtin "object.__class__"))) (z4_InvalidPaper : PySem.W.specialIn K (.builtin "object.__class__") "__get__" = some (some (.builtin "getset_descriptor.__get__"))) (z5_InvalidPaper : PySem.W.takesIn K (.builtin "object.__class__") = some true) (z6_InvalidPaper : PySem.W.mroIn K a_InvalidPaper (.type "object") = some true)
  (z7_InvalidPaper_ValueError : PySem.W.subIn K (.ref a_InvalidPaper) (.type "ValueError") = some true)
  (hS : ∀ ns : List Int, ns.length ≤ 63 → (∀ z ∈ ns, Builtin.Int.intBits z ≤ 1048576) → ∃ μ, S_law [.sq (ns.map D.int)] [] = .ok (.bl true) μ) :
  ∃ fd : FuncData, (∀ (s : Shared) (v : Value), BindsTo s fd ⟨[v], []⟩ [("script", v)]) ∧ ∀ base : Heap, K.In base → base.Ns mainGlobals mg → FnOk P w K mg base (L2.CX P w) 9 fa fd ["script"] (spLawZ K) := by
  have e := hfa.symm.trans (PySem.W.mg_of X G h1_law)
  cases e
  let F : Fx := { K := K, cl := fun _ => none, xc := xcOf mg, xo := none }
  have M : Mod K mg F := {
    g_isinstance := PySem.W.mg_none_of X G z_isinstance
    g_bool := PySem.W.mg_none_of X G z_bool
    g_int := PySem.W.mg_none_of X G z_int
    g_str := PySem.W.mg_none_of X G z_str
    g_len := PySem.W.mg_none_of X G z_len
    g_range := PySem.W.mg_none_of X G z_range
    g_list := PySem.W.mg_none_of X G z_list
    g_reversed := PySem.W.mg_none_of X G z_reversed
    g_tuple := PySem.W.mg_none_of X G z_tuple
    g_abs := PySem.W.mg_none_of X G z_abs
    g_sorted := PySem.W.mg_none_of X G z_sorted
    g_ValueError := PySem.W.mg_none_of X G z_ValueError
    c_MOST := con_int (PySem.W.mg_of X G k_MOST) ⟨_, rfl⟩
    x_InvalidNumber := ⟨a_InvalidNumber, PySem.W.mg_of X G y1_InvalidNumber, xcOf_of (PySem.W.mg_of X G y1_InvalidNumber), y4_InvalidNumber, y5_InvalidNumber, y2_InvalidNumber, y3_InvalidNumber⟩
    x_TooMany := ⟨a_TooMany, PySem.W.mg_of X G y1_TooMany, xcOf_of (PySem.W.mg_of X G y1_TooMany), y4_TooMany, y5_TooMany, y2_TooMany, y3_TooMany⟩
    x_InvalidPaper := ⟨a_InvalidPaper, PySem.W.mg_of X G y1_InvalidPaper, xcOf_of (PySem.W.mg_of X G y1_InvalidPaper), y4_InvalidPaper, y5_InvalidPaper, y2_InvalidPaper, y3_InvalidPaper⟩
    t_InnError := ⟨.ref a_InnError, PySem.W.mg_of X G y1_InnError, fun cls b C h1 h2 => by
      unfold cat_InnError at h1
      split at h1
      · rename_i e0; subst e0; cases h1; have e1 : some a_InvalidNumber = some C := (xcOf_of (PySem.W.mg_of X G y1_InvalidNumber)).symm.trans h2; cases e1; exact PySem.W.exm_ref y2_InnError y6_InnError y3_InnError y7_InvalidNumber_InnError
      split at h1
      · rename_i e0; subst e0; cases h1; have e1 : some a_TooMany = some C := (xcOf_of (PySem.W.mg_of X G y1_TooMany)).symm.trans h2; cases e1; exact PySem.W.exm_ref y2_InnError y6_InnError y3_InnError y7_TooMany_InnError
      split at h1
      · rename_i e0; subst e0; cases h1; have e1 : some a_InvalidPaper = some C := (xcOf_of (PySem.W.mg_of X G y1_InvalidPaper)).symm.trans h2; cases e1; exact PySem.W.exm_ref y2_InnError y6_InnError y3_InnError y7_InvalidPaper_InnError
      cases h1⟩
    ec := fun c hc D h2 => by
      simp only [ecs, List.mem_cons, List.not_mem_nil, or_false] at hc
      rcases hc with rfl | rfl | rfl
      · have e1 : some a_InvalidNumber = some D := (xcOf_of (PySem.W.mg_of X G y1_InvalidNumber)).symm.trans h2; cases e1; exact ⟨z1_InvalidNumber, z2_InvalidNumber, y2_InvalidNumber, y6_InvalidNumber, z3_InvalidNumber, z4_InvalidNumber, z5_InvalidNumber, z6_InvalidNumber⟩
      · have e1 : some a_TooMany = some D := (xcOf_of (PySem.W.mg_of X G y1_TooMany)).symm.trans h2; cases e1; exact ⟨z1_TooMany, z2_TooMany, y2_TooMany, y6_TooMany, z3_TooMany, z4_TooMany, z5_TooMany, z6_TooMany⟩
      · have e1 : some a_InvalidPaper = some D := (xcOf_of (PySem.W.mg_of X G y1_InvalidPaper)).symm.trans h2; cases e1; exact ⟨z1_InvalidPaper, z2_InvalidPaper, y2_InvalidPaper, y6_InvalidPaper, z3_InvalidPaper, z4_InvalidPaper, z5_InvalidPaper, z6_InvalidPaper⟩
    i_InvalidNumber := isE_own (PySem.W.mg_of X G y1_InvalidNumber) fun cls b C h1 h2 => by
      unfold isa_InvalidNumber at h1
      split at h1
      · rename_i e0; subst e0; cases h1; have e1 : some a_InvalidNumber = some C := (xcOf_of (PySem.W.mg_of X G y1_InvalidNumber)).symm.trans h2; cases e1; exact kit_ref y6_InvalidNumber y3_InvalidNumber y7_InvalidNumber_InvalidNumber y7_InvalidNumber_InvalidNumber
      split at h1
      · rename_i e0; subst e0; cases h1; have e1 : some a_TooMany = some C := (xcOf_of (PySem.W.mg_of X G y1_TooMany)).symm.trans h2; cases e1; exact kit_ref y6_InvalidNumber y3_InvalidNumber y7_InvalidNumber_InvalidNumber y7_TooMany_InvalidNumber
      split at h1
      · rename_i e0; subst e0; cases h1; have e1 : some a_InvalidPaper = some C := (xcOf_of (PySem.W.mg_of X G y1_InvalidPaper)).symm.trans h2; cases e1; exact kit_ref y6_InvalidNumber y3_InvalidNumber y7_InvalidNumber_InvalidNumber y7_InvalidPaper_InvalidNumber
      cases h1
    i_InvalidPaper := isE_own (PySem.W.mg_of X G y1_InvalidPaper) fun cls b C h1 h2 => by
      unfold isa_InvalidPaper at h1
      split at h1
      · rename_i e0; subst e0; cases h1; have e1 : some a_InvalidNumber = some C := (xcOf_of (PySem.W.mg_of X G y1_InvalidNumber)).symm.trans h2; cases e1; exact kit_ref y6_InvalidPaper y3_InvalidPaper y7_InvalidPaper_InvalidPaper y7_InvalidNumber_InvalidPaper
      split at h1
      · rename_i e0; subst e0; cases h1; have e1 : some a_TooMany = some C := (xcOf_of (PySem.W.mg_of X G y1_TooMany)).symm.trans h2; cases e1; exact kit_ref y6_InvalidPaper y3_InvalidPaper y7_InvalidPaper_InvalidPaper y7_TooMany_InvalidPaper
      split at h1
      · rename_i e0; subst e0; cases h1; have e1 : some a_InvalidPaper = some C := (xcOf_of (PySem.W.mg_of X G y1_InvalidPaper)).symm.trans h2; cases e1; exact kit_ref y6_InvalidPaper y3_InvalidPaper y7_InvalidPaper_InvalidPaper y7_InvalidPaper_InvalidPaper
      cases h1
    i_ValueError := isE_bi (T := "ValueError") (PySem.W.mg_none_of X G z_ValueError) (by decide +kernel) (by decide) fun cls b C h1 h2 => by
      unfold isa_ValueError at h1
      split at h1
      · rename_i e0; subst e0; cases h1; have e1 : some a_InvalidNumber = some C := (xcOf_of (PySem.W.mg_of X G y1_InvalidNumber)).symm.trans h2; cases e1; exact kit_bi (by decide +kernel) z7_InvalidNumber_ValueError
      split at h1
      · rename_i e0; subst e0; cases h1; have e1 : some a_TooMany = some C := (xcOf_of (PySem.W.mg_of X G y1_TooMany)).symm.trans h2; cases e1; exact kit_bi (by decide +kernel) z7_TooMany_ValueError
      split at h1
      · rename_i e0; subst e0; cases h1; have e1 : some a_InvalidPaper = some C := (xcOf_of (PySem.W.mg_of X G y1_InvalidPaper)).symm.trans h2; cases e1; exact kit_bi (by decide +kernel) z7_InvalidPaper_ValueError
      cases h1 }
  have F_is_number := funD_mk (dvs := [(V.int 0), (V.int 1000000)]) h2_is_number h3_is_number h4_is_number (by simp) h5_is_number rfl (.cons ⟨_, rfl⟩ (.cons ⟨_, rfl⟩ .nil))
  have F__law_pool := fun_mk (st := s__law_pool) h2__law_pool h3__law_pool h4__law_pool
  have F__law_draw := fun_mk (st := s__law_draw) h2__law_draw h3__law_draw h4__law_draw
  have F__law_then := fun_mk (st := s__law_then) h2__law_then h3__law_then h4__law_then
  have F__law_all := fun_mk (st := s__law_all) h2__law_all h3__law_all h4__law_all
  have F_checked_number := funD_mk (dvs := [(V.int 0), (V.int 1000000)]) h2_checked_number h3_checked_number h4_checked_number (by simp) h5_checked_number rfl (.cons ⟨_, rfl⟩ (.cons ⟨_, rfl⟩ .nil))
  have F_checked_order := fun_mk (st := s_checked_order) h2_checked_order h3_checked_order h4_checked_order
  have F__law_pick := fun_mk (st := s__law_pick) h2__law_pick h3__law_pick h4__law_pick
  have F__law_order := fun_mk (st := s__law_order) h2__law_order h3__law_order h4__law_order
  have F_shuffled := fun_mk (st := s_shuffled) h2_shuffled h3_shuffled h4_shuffled
  have F_rings := fun_mk (st := s_rings) h2_rings h3_rings h4_rings
  have F_place_of := fun_mk (st := s_place_of) h2_place_of h3_place_of h4_place_of
  have F_order_at := fun_mk (st := s_order_at) h2_order_at h3_order_at h4_order_at
  have F_next_order := fun_mk (st := s_next_order) h2_next_order h3_next_order h4_next_order
  have F_riffle := fun_mk (st := s_riffle) h2_riffle h3_riffle h4_riffle
  have F_times := fun_mk (st := s_times) h2_times h3_times h4_times
  have F_often := fun_mk (st := s_often) h2_often h3_often h4_often
  have F__law_refused := fun_mk (st := s__law_refused) h2__law_refused h3__law_refused h4__law_refused
  have F__law_same := fun_mk (st := s__law_same) h2__law_same h3__law_same h4__law_same
  have F_law := fun_mk (st := s_law) h2_law h3_law h4_law
  refine ⟨PySem.W.fnOf "law" "law" (defArgs s_law) (defBody s_law) (defScope s_law) .none kV_law dc_law pm_law an_law cd_law ct_law, fun s v => .of_eq rfl, fun base _ _ => ?_⟩
  have c_is_number_3 : Cal P w K mg base F 1 "is_number" 3 [] S_is_number := cal_dfnD (j := 2) (PySem.W.mg_of X G h1_is_number) F_is_number (F_is_number.binds1 (ps := ["value", "least", "most"]) 3 2 (by simp) rfl fun T kV doc pm an cdv ct us its hl hi => match us, its, hl, hi with | [_, _, _], [_, _], _, _ => ⟨_, rfl, rfl⟩) (fun g => (show RepL g [] [] from RepL.nil)) sc_is_number rfl (d_is_number (K := K) (mg := mg) (base := base) rfl rfl M )
  have c__law_pool : Cal P w K mg base F 1 "_law_pool" 1 [] S__law_pool := cal_dfk (PySem.W.mg_of X G h1__law_pool) F__law_pool (F__law_pool.binds (ps := ["script"]) fun _ _ _ _ _ _ us hl => match us, hl with | [_], _ => rfl) sc__law_pool rfl (d__law_pool (K := K) (mg := mg) (base := base) rfl rfl M )
  have c__law_draw : Cal P w K mg base F 1 "_law_draw" 2 [] S__law_draw := cal_dfn (PySem.W.mg_of X G h1__law_draw) F__law_draw (F__law_draw.binds (ps := ["pool", "many"]) fun _ _ _ _ _ _ us hl => match us, hl with | [_, _], _ => rfl) sc__law_draw rfl (d__law_draw (K := K) (mg := mg) (base := base) rfl rfl M )
  have c__law_then : Cal P w K mg base F 1 "_law_then" 2 [] S__law_then := cal_dfn (PySem.W.mg_of X G h1__law_then) F__law_then (F__law_then.binds (ps := ["one", "other"]) fun _ _ _ _ _ _ us hl => match us, hl with | [_, _], _ => rfl) sc__law_then rfl (d__law_then (K := K) (mg := mg) (base := base) rfl rfl M )
  have c__law_all : Cal P w K mg base F 1 "_law_all" 1 [] S__law_all := cal_dfn (PySem.W.mg_of X G h1__law_all) F__law_all (F__law_all.binds (ps := ["many"]) fun _ _ _ _ _ _ us hl => match us, hl with | [_], _ => rfl) sc__law_all rfl (d__law_all (K := K) (mg := mg) (base := base) rfl rfl M )
  have c_checked_number_3 : Cal P w K mg base F 2 "checked_number" 3 [] S_checked_number := cal_dfnD (j := 2) (PySem.W.mg_of X G h1_checked_number) F_checked_number (F_checked_number.binds1 (ps := ["value", "least", "most"]) 3 2 (by simp) rfl fun T kV doc pm an cdv ct us its hl hi => match us, its, hl, hi with | [_, _, _], [_, _], _, _ => ⟨_, rfl, rfl⟩) (fun g => (show RepL g [] [] from RepL.nil)) sc_checked_number rfl (d_checked_number (K := K) (mg := mg) (base := base) rfl rfl M c_is_number_3)
  have c_checked_order : Cal P w K mg base F 2 "checked_order" 1 [] S_checked_order := cal_dfk (PySem.W.mg_of X G h1_checked_order) F_checked_order (F_checked_order.binds (ps := ["order"]) fun _ _ _ _ _ _ us hl => match us, hl with | [_], _ => rfl) sc_checked_order rfl (d_checked_order (K := K) (mg := mg) (base := base) rfl rfl M c_is_number_3)
  have c__law_pick : Cal P w K mg base F 2 "_law_pick" 2 [] S__law_pick := cal_dfn (PySem.W.mg_of X G h1__law_pick) F__law_pick (F__law_pick.binds (ps := ["pool", "rows"]) fun _ _ _ _ _ _ us hl => match us, hl with | [_, _], _ => rfl) sc__law_pick rfl (d__law_pick (K := K) (mg := mg) (base := base) rfl rfl M c__law_draw)
  have c__law_order : Cal P w K mg base F 2 "_law_order" 2 [] S__law_order := cal_dfn (PySem.W.mg_of X G h1__law_order) F__law_order (F__law_order.binds (ps := ["pool", "many"]) fun _ _ _ _ _ _ us hl => match us, hl with | [_, _], _ => rfl) sc__law_order rfl (d__law_order (K := K) (mg := mg) (base := base) rfl rfl M c__law_draw)
  have c_shuffled : Cal P w K mg base F 3 "shuffled" 2 [] S_shuffled := cal_dfn (PySem.W.mg_of X G h1_shuffled) F_shuffled (F_shuffled.binds (ps := ["cards", "order"]) fun _ _ _ _ _ _ us hl => match us, hl with | [_, _], _ => rfl) sc_shuffled rfl (d_shuffled (K := K) (mg := mg) (base := base) rfl rfl M c_checked_order)
  have c_rings : Cal P w K mg base F 3 "rings" 1 [] S_rings := cal_dfn (PySem.W.mg_of X G h1_rings) F_rings (F_rings.binds (ps := ["order"]) fun _ _ _ _ _ _ us hl => match us, hl with | [_], _ => rfl) sc_rings rfl (d_rings (K := K) (mg := mg) (base := base) rfl rfl M c_checked_order)
  have c_place_of : Cal P w K mg base F 3 "place_of" 1 [] S_place_of := cal_dfn (PySem.W.mg_of X G h1_place_of) F_place_of (F_place_of.binds (ps := ["order"]) fun _ _ _ _ _ _ us hl => match us, hl with | [_], _ => rfl) sc_place_of rfl (d_place_of (K := K) (mg := mg) (base := base) rfl rfl M c_checked_order)
  have c_order_at : Cal P w K mg base F 3 "order_at" 2 [] S_order_at := cal_dfn (PySem.W.mg_of X G h1_order_at) F_order_at (F_order_at.binds (ps := ["many", "place"]) fun _ _ _ _ _ _ us hl => match us, hl with | [_, _], _ => rfl) sc_order_at rfl (d_order_at (K := K) (mg := mg) (base := base) rfl rfl M c_checked_number_3 c_is_number_3)
  have c_next_order : Cal P w K mg base F 3 "next_order" 1 [] S_next_order := cal_dfn (PySem.W.mg_of X G h1_next_order) F_next_order (F_next_order.binds (ps := ["order"]) fun _ _ _ _ _ _ us hl => match us, hl with | [_], _ => rfl) sc_next_order rfl (d_next_order (K := K) (mg := mg) (base := base) rfl rfl M c_checked_order)
  have c_riffle : Cal P w K mg base F 3 "riffle" 1 [] S_riffle := cal_dfn (PySem.W.mg_of X G h1_riffle) F_riffle (F_riffle.binds (ps := ["many"]) fun _ _ _ _ _ _ us hl => match us, hl with | [_], _ => rfl) sc_riffle rfl (d_riffle (K := K) (mg := mg) (base := base) rfl rfl M c_checked_number_3)
  have c_times : Cal P w K mg base F 4 "times" 1 [] S_times := cal_dfn (PySem.W.mg_of X G h1_times) F_times (F_times.binds (ps := ["order"]) fun _ _ _ _ _ _ us hl => match us, hl with | [_], _ => rfl) sc_times rfl (d_times (K := K) (mg := mg) (base := base) rfl rfl M c_rings)
  have c_often : Cal P w K mg base F 4 "often" 2 [] S_often := cal_dfn (PySem.W.mg_of X G h1_often) F_often (F_often.binds (ps := ["order", "many"]) fun _ _ _ _ _ _ us hl => match us, hl with | [_, _], _ => rfl) sc_often rfl (d_often (K := K) (mg := mg) (base := base) rfl rfl M c_checked_order c_is_number_3 c_rings)
  have c__law_refused : Cal P w K mg base F 5 "_law_refused" 3 [] S__law_refused := cal_dfn (PySem.W.mg_of X G h1__law_refused) F__law_refused (F__law_refused.binds (ps := ["choice", "many", "value"]) fun _ _ _ _ _ _ us hl => match us, hl with | [_, _, _], _ => rfl) sc__law_refused rfl (d__law_refused (K := K) (mg := mg) (base := base) rfl rfl M c_order_at c_place_of c_often)
  have c__law_same : Cal P w K mg base F 8 "_law_same" 2 [] S__law_same := cal_dfnR (b := b__law_same) 0 (PySem.W.mg_of X G h1__law_same) F__law_same (F__law_same.binds (ps := ["actual", "due"]) fun _ _ _ _ _ _ us hl => match us, hl with | [_, _], _ => rfl) sc__law_same rfl (fun k S hk c => d__law_same (K := K) (mg := mg) (base := base) rfl rfl M  hk c) 8
  exact FnOk.law (F := F) rfl rfl (fnD F_law sc_law rfl (d_law (K := K) (mg := mg) (base := base) rfl rfl M c__law_pool c__law_draw c__law_all c_place_of c__law_same c_order_at c_next_order c__law_order c__law_then c_times c__law_pick c_often c_riffle c_shuffled c__law_refused) fun ds μ _ => cleanD_ref μ _) hS
end K77
open PySem PySem.W PyProof.Rows in
set_option maxRecDepth 100000 in
set_option maxHeartbeats 0 in
theorem PySem.Challenge.cw_innworth_k77_places_of_orders_holds : PySem.Challenge.rw_innworth_k77_places_of_orders.Holds := by
  w_on; o_law; k_head; (case hw => w_witness2)
  k_fill
  refine Z.walkZ (l := PySem.Challenge.rw_innworth_k77_places_of_orders) (k := 9) rfl rfl ⟨rfl, by decide, by decide⟩ (fun w h Y => PySem.W.kIn_of Y) ?F
  case F =>
    intro w mg fa h KX G hmg
    refine' K77.all_mk KX G hmg ?h5_is_number ?h1_is_number ?h2_is_number ?h3_is_number ?h4_is_number ?h1__law_pool ?h2__law_pool ?h3__law_pool ?h4__law_pool ?h1__law_draw ?h2__law_draw ?h3__law_draw ?h4__law_draw ?h1__law_then ?h2__law_then ?h3__law_then ?h4__law_then ?h1__law_all ?h2__law_all ?h3__law_all ?h4__law_all ?h5_checked_number ?h1_checked_number ?h2_checked_number ?h3_checked_number ?h4_checked_number ?h1_checked_order ?h2_checked_order ?h3_checked_order ?h4_checked_order ?h1__law_pick ?h2__law_pick ?h3__law_pick ?h4__law_pick ?h1__law_order ?h2__law_order ?h3__law_order ?h4__law_order ?h1_shuffled ?h2_shuffled ?h3_shuffled ?h4_shuffled ?h1_rings ?h2_rings ?h3_rings ?h4_rings ?h1_place_of ?h2_place_of ?h3_place_of ?h4_place_of ?h1_order_at ?h2_order_at ?h3_order_at ?h4_order_at ?h1_next_order ?h2_next_order ?h3_next_order ?h4_next_order ?h1_riffle ?h2_riffle ?h3_riffle ?h4_riffle ?h1_times ?h2_times ?h3_times ?h4_times ?h1_often ?h2_often ?h3_often ?h4_often ?h1__law_refused ?h2__law_refused ?h3__law_refused ?h4__law_refused ?h1__law_same ?h2__law_same ?h3__law_same ?h4__law_same ?h1_law ?h2_law ?h3_law ?h4_law ?z_isinstance ?z_bool ?z_int ?z_str ?z_len ?z_range ?z_list ?z_reversed ?z_tuple ?z_abs ?z_sorted ?z_ValueError ?k_MOST ?y1_InnError ?y2_InnError ?y3_InnError ?y6_InnError ?y7_InvalidNumber_InnError ?y7_TooMany_InnError ?y7_InvalidPaper_InnError ?y7_InnError_InnError ?y1_InvalidNumber ?y2_InvalidNumber ?y3_InvalidNumber ?y4_InvalidNumber ?y5_InvalidNumber ?y6_InvalidNumber ?y7_InvalidNumber_InvalidNumber ?y7_TooMany_InvalidNumber ?y7_InvalidPaper_InvalidNumber ?z1_InvalidNumber ?z2_InvalidNumber ?z3_InvalidNumber ?z4_InvalidNumber ?z5_InvalidNumber ?z6_InvalidNumber ?z7_InvalidNumber_ValueError ?y1_TooMany ?y2_TooMany ?y3_TooMany ?y4_TooMany ?y5_TooMany ?y6_TooMany ?z1_TooMany ?z2_TooMany ?z3_TooMany ?z4_TooMany ?z5_TooMany ?z6_TooMany ?z7_TooMany_ValueError ?y1_InvalidPaper ?y2_InvalidPaper ?y3_InvalidPaper ?y4_InvalidPaper ?y5_InvalidPaper ?y6_InvalidPaper ?y7_InvalidNumber_InvalidPaper ?y7_TooMany_InvalidPaper ?y7_InvalidPaper_InvalidPaper ?z1_InvalidPaper ?z2_InvalidPaper ?z3_InvalidPaper ?z4_InvalidPaper ?z5_InvalidPaper ?z6_InvalidPaper ?z7_InvalidPaper_ValueError K77.law_ok
    (case h1_is_number => k_is)
    (case h1__law_pool => k_is)
    (case h1__law_draw => k_is)
    (case h1__law_then => k_is)
    (case h1__law_all => k_is)
    (case h1_checked_number => k_is)
    (case h1_checked_order => k_is)
    (case h1__law_pick => k_is)
    (case h1__law_order => k_is)
    (case h1_shuffled => k_is)
    (case h1_rings => k_is)
    (case h1_place_of => k_is)
    (case h1_order_at => k_is)
    (case h1_next_order => k_is)
    (case h1_riffle => k_is)
    (case h1_times => k_is)
    (case h1_often => k_is)
    (case h1__law_refused => k_is)
    (case h1__law_same => k_is)
    (case h1_law => k_is)
    (case y1_InnError => k_is)
    (case y1_InvalidNumber => k_is)
    (case y1_TooMany => k_is)
    (case y1_InvalidPaper => k_is)
    (case h2_is_number => k_is)
    (case h2__law_pool => k_is)
    (case h2__law_draw => k_is)
    (case h2__law_then => k_is)
    (case h2__law_all => k_is)
    (case h2_checked_number => k_is)
    (case h2_checked_order => k_is)
    (case h2__law_pick => k_is)
    (case h2__law_order => k_is)
    (case h2_shuffled => k_is)
    (case h2_rings => k_is)
    (case h2_place_of => k_is)
    (case h2_order_at => k_is)
    (case h2_next_order => k_is)
    (case h2_riffle => k_is)
    (case h2_times => k_is)
    (case h2_often => k_is)
    (case h2__law_refused => k_is)
    (case h2__law_same => k_is)
    (case h2_law => k_is)
    (case h5_is_number => k_is)
    (case h3_is_number => k_is)
    (case h4_is_number => k_is)
    (case h3__law_pool => k_is)
    (case h4__law_pool => k_is)
    (case h3__law_draw => k_is)
    (case h4__law_draw => k_is)
    (case h3__law_then => k_is)
    (case h4__law_then => k_is)
    (case h3__law_all => k_is)
    (case h4__law_all => k_is)
    (case h5_checked_number => k_is)
    (case h3_checked_number => k_is)
    (case h4_checked_number => k_is)
    (case h3_checked_order => k_is)
    (case h4_checked_order => k_is)
    (case h3__law_pick => k_is)
    (case h4__law_pick => k_is)
    (case h3__law_order => k_is)
    (case h4__law_order => k_is)
    (case h3_shuffled => k_is)
    (case h4_shuffled => k_is)
    (case h3_rings => k_is)
    (case h4_rings => k_is)
    (case h3_place_of => k_is)
    (case h4_place_of => k_is)
    (case h3_order_at => k_is)
    (case h4_order_at => k_is)
    (case h3_next_order => k_is)
    (case h4_next_order => k_is)
    (case h3_riffle => k_is)
    (case h4_riffle => k_is)
    (case h3_times => k_is)
    (case h4_times => k_is)
    (case h3_often => k_is)
    (case h4_often => k_is)
    (case h3__law_refused => k_is)
    (case h4__law_refused => k_is)
    (case h3__law_same => k_is)
    (case h4__law_same => k_is)
    (case h3_law => k_is)
    (case h4_law => k_is)
    (case z_isinstance => k_is)
    (case z_bool => k_is)
    (case z_int => k_is)
    (case z_str => k_is)
    (case z_len => k_is)
    (case z_range => k_is)
    (case z_list => k_is)
    (case z_reversed => k_is)
    (case z_tuple => k_is)
    (case z_abs => k_is)
    (case z_sorted => k_is)
    (case z_ValueError => k_is)
    (case k_MOST => k_is)
    (case y2_InnError => k_is)
    (case y3_InnError => k_is)
    (case y6_InnError => k_is)
    (case y7_InvalidNumber_InnError => first | rfl | k_is)
    (case y7_TooMany_InnError => first | rfl | k_is)
    (case y7_InvalidPaper_InnError => first | rfl | k_is)
    (case y7_InnError_InnError => first | rfl | k_is)
    (case y2_InvalidNumber => k_is)
    (case y3_InvalidNumber => k_is)
    (case y4_InvalidNumber => k_exc)
    (case y5_InvalidNumber => k_is)
    (case y6_InvalidNumber => k_is)
    (case y7_InvalidNumber_InvalidNumber => first | rfl | k_is)
    (case y7_TooMany_InvalidNumber => first | rfl | k_is)
    (case y7_InvalidPaper_InvalidNumber => first | rfl | k_is)
    (case z1_InvalidNumber => k_is)
    (case z2_InvalidNumber => k_is)
    (case z3_InvalidNumber => k_is)
    (case z4_InvalidNumber => k_is)
    (case z5_InvalidNumber => k_is)
    (case z6_InvalidNumber => k_is)
    (case z7_InvalidNumber_ValueError => k_is)
    (case y2_TooMany => k_is)
    (case y3_TooMany => k_is)
    (case y4_TooMany => k_exc)
    (case y5_TooMany => k_is)
    (case y6_TooMany => k_is)
    (case z1_TooMany => k_is)
    (case z2_TooMany => k_is)
    (case z3_TooMany => k_is)
    (case z4_TooMany => k_is)
    (case z5_TooMany => k_is)
    (case z6_TooMany => k_is)
    (case z7_TooMany_ValueError => k_is)
    (case y2_InvalidPaper => k_is)
    (case y3_InvalidPaper => k_is)
    (case y4_InvalidPaper => k_exc)
    (case y5_InvalidPaper => k_is)
    (case y6_InvalidPaper => k_is)
    (case y7_InvalidNumber_InvalidPaper => first | rfl | k_is)
    (case y7_TooMany_InvalidPaper => first | rfl | k_is)
    (case y7_InvalidPaper_InvalidPaper => first | rfl | k_is)
    (case z1_InvalidPaper => k_is)
    (case z2_InvalidPaper => k_is)
    (case z3_InvalidPaper => k_is)
    (case z4_InvalidPaper => k_is)
    (case z5_InvalidPaper => k_is)
    (case z6_InvalidPaper => k_is)
    (case z7_InvalidPaper_ValueError => k_is)
