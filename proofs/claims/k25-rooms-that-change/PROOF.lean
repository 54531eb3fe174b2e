import PyProof.Rows.All
import Wide.All
import OpenK.AllK
import Wide.FinOn
import HandS.ForMost
import HandS.Exc
import HandS.TryOnly
import HandS.TryMany
import HandS.ExcOwn
import HandS.WordsExc
import HandS.Style
import HandS.Wide
import KE.DataEq
import HandS.Small
import HandS.Defaults
import HandS.IsInst
import HandS.More
import HandS.Conv
import HandS.Gcd
import HandS.SetFor
import HandS.RaiseMore
import KE.KSortTupG
import HandS.Sort
import HandS.SortInts
import HandS.Text
import HandS.Flow
import HandS.ExcIs
import HandS.EndBits
import PySem.Challenge.RW_innworth_k25_rooms_that_change
set_option Elab.async false
set_option linter.all false
set_option maxRecDepth 100000
set_option maxHeartbeats 4000000
namespace Z
open PySem PySem.Spec PyProof.Rows L2

/-- data: immutable trees, and handles to the mutable cells of the memory -/
inductive D where
  | non | bl (b : Bool) | int (i : Int) | str (x : Str)
  | tup (ds : List D) | lst (ds : List D) | sq (ds : List D) | dic (ks : List Key) (vs : List D) | obj (n : Nat) | exn (c : Str) (ks : List Str) (vs : List D)
/-- a mutable object's content; fz: a tree that was one -/
inductive Cell where
  | lst (ds : List D) | dic (ks : List Key) (vs : List D) | diT (ks : List (List Key)) (vs : List D) | ins (c : Nat) (fs : List (Str × D)) | fz (d : D)
abbrev Mem := List Cell
def Cell.live : Cell → Bool
  | .fz _ => false
  | _ => true
/-- an exception: its class's name, its fields -/
structure Ex where
  cls : Str
  fs : List (Str × D)
inductive R (α : Type) where
  | ok (a : α) (μ : Mem) | exc (e : Ex) (μ : Mem) | bad
def R.bind {α β : Type} : R α → (α → Mem → R β) → R β
  | .ok a μ, k => k a μ
  | .exc e μ, _ => .exc e μ
  | .bad, _ => .bad

/-- where one stands: the written part, the heap, the addresses of the cells, the cells, further addresses that are nobody's, the classes' addresses by number, the exception classes' by name -/
structure G where
  K : PySem.W.Frag
  H : Hp
  α : List Addr
  μ : Mem
  ex : List Addr
  cl : Nat → Option Addr
  xc : Str → Option Addr
  /-- the exception in hand: its address, its class's name, its own dict -/
  xo : Option (Addr × Str × Option Addr)
def G.live (g : G) (a : Addr) : Prop := ∃ (n : Nat) (c : Cell), g.α[n]? = some a ∧ g.μ[n]? = some c ∧ c.live = true
def G.P (g : G) (a : Addr) : Prop := g.live a ∨ a ∈ g.ex
def KL (K : PySem.W.Frag) (a : Addr) (xs : List V) : Prop := ∃ (o : Obj) (its : Array Value) (n : Nat), K.lookup a = some o ∧ o.cls = .type "list" ∧ o.dict = none ∧ o.data = .seq its n ∧ its.size ≤ sizeLine ∧ Vals xs its.toList
def KTp (K : PySem.W.Frag) (a : Addr) (xs : List V) : Prop := ∃ (o : Obj) (its : Array Value) (n : Nat), K.lookup a = some o ∧ o.cls = .type "tuple" ∧ o.data = .seq its n ∧ its.size ≤ sizeLine ∧ Vals xs its.toList
def G.isL (g : G) (a : Addr) (xs : List V) : Prop := (Rd g.H a (.lst xs) ∧ ¬ g.P a) ∨ KL g.K a xs
/-- a list of our own that is nobody's to change -/
def G.isW (g : G) (a : Addr) (xs : List V) : Prop := g.H a = some (.lst xs) ∧ ¬ g.P a
def G.isT (g : G) (a : Addr) (xs : List V) : Prop := (Rd g.H a (.tup xs) ∧ ¬ g.P a) ∨ KTp g.K a xs
def G.isD (g : G) (a : Addr) (kvs : List (Key × V)) : Prop := Rd g.H a (.dK kvs) ∧ ¬ g.P a
theorem G.isL.sq {g : G} {a : Addr} {xs : List V} (h : g.isL a xs) : SqL g.K g.H a xs := h.elim (fun z => .inl z.1) .inr
theorem G.isW.sq {g : G} {a : Addr} {xs : List V} (h : g.isW a xs) : SqL g.K g.H a xs := .inl (.inl h.1)
theorem G.isT.sq {g : G} {a : Addr} {xs : List V} (h : g.isT a xs) : SqT g.K g.H a xs := h.elim (fun z => .inl z.1) .inr

mutual
def Rep (g : G) : D → V → Prop
  | .non, v => v = .non
  | .bl b, v => v = .bl b
  | .int i, v => v = .int i
  | .str x, v => v = .str x
  | .tup ds, v => ∃ a xs, v = .ref a ∧ g.isT a xs ∧ RepL g ds xs
  | .lst ds, v => ∃ a xs, v = .ref a ∧ g.isW a xs ∧ RepL g ds xs
  | .sq ds, v => ∃ a xs, v = .ref a ∧ g.isL a xs ∧ RepL g ds xs
  | .dic ks ds, v => ∃ a xs, v = .ref a ∧ g.isD a (ks.zip xs) ∧ ks.length = xs.length ∧ RepL g ds xs
  | .obj n, v => ∃ a, g.α[n]? = some a ∧ v = .ref a
  | .exn c ks ds, v => ∃ a dd, g.xo = some (a, c, dd) ∧ v = .ref a ∧ ((ks = [] ∧ ds = [] ∧ dd = none) ∨ ∃ d xs, dd = some d ∧ g.H d = some (.xd (ks.zip xs)) ∧ ¬ g.P d ∧ ks.length = xs.length ∧ RepL g ds xs)
def RepL (g : G) : List D → List V → Prop
  | [], xs => xs = []
  | d :: ds, xs => ∃ v vs, xs = v :: vs ∧ Rep g d v ∧ RepL g ds vs
end
theorem RepL.nil {g : G} : RepL g [] [] := rfl
theorem RepL.cons {g : G} {d : D} {v : V} {ds : List D} {vs : List V} (h : Rep g d v) (t : RepL g ds vs) : RepL g (d :: ds) (v :: vs) := ⟨v, vs, rfl, h, t⟩
theorem RepL.length {g : G} : ∀ {ds : List D} {xs : List V}, RepL g ds xs → ds.length = xs.length
  | [], _, h => by cases h; rfl
  | _ :: _, _, ⟨_, _, e, _, t⟩ => by subst e; simp [t.length]
theorem RepL.get {g : G} : ∀ {ds : List D} {xs : List V} {i : Nat} {x : V}, RepL g ds xs → xs[i]? = some x → ∃ d, ds[i]? = some d ∧ Rep g d x
  | [], _, _, _, h, e => by cases h; simp at e
  | _ :: _, _, 0, _, ⟨_, _, q, r, _⟩, e => by subst q; simp at e; subst e; exact ⟨_, rfl, r⟩
  | _ :: _, _, i + 1, _, ⟨_, _, q, _, t⟩, e => by subst q; simp at e; obtain ⟨d, h1, h2⟩ := t.get e; exact ⟨d, by simpa using h1, h2⟩
theorem RepL.get' {g : G} {ds : List D} {xs : List V} {i : Nat} {d : D} (h : RepL g ds xs) (e : ds[i]? = some d) : ∃ x, xs[i]? = some x ∧ Rep g d x := by
  obtain ⟨hi, _⟩ := List.getElem?_eq_some_iff.mp e
  have hi' : i < xs.length := by rw [← h.length]; exact hi
  obtain ⟨d', h1, h2⟩ := h.get (List.getElem?_eq_getElem hi')
  rw [e] at h1; cases h1
  exact ⟨_, List.getElem?_eq_getElem hi', h2⟩
theorem RepL.app {g : G} : ∀ {ds es : List D} {xs ys : List V}, RepL g ds xs → RepL g es ys → RepL g (ds ++ es) (xs ++ ys)
  | [], _, _, _, h, k => by cases h; exact k
  | _ :: _, _, _, _, ⟨_, _, e, r, t⟩, k => by subst e; exact ⟨_, _, rfl, r, t.app k⟩
theorem RepL.set {g : G} {d : D} {v : V} (r : Rep g d v) : ∀ {ds : List D} {xs : List V} (i : Nat), RepL g ds xs → RepL g (ds.set i d) (xs.set i v)
  | [], _, _, h => by cases h; rfl
  | _ :: _, _, 0, ⟨_, _, e, _, t⟩ => by subst e; exact ⟨_, _, rfl, r, t⟩
  | _ :: _, _, i + 1, ⟨_, _, e, q, t⟩ => by subst e; exact ⟨_, _, rfl, q, RepL.set r i t⟩
theorem RepL.take {g : G} : ∀ {ds : List D} {xs : List V} (n : Nat), RepL g ds xs → RepL g (ds.take n) (xs.take n)
  | [], _, n, h => by cases h; simp; rfl
  | _ :: _, _, 0, _ => by simp; rfl
  | _ :: _, _, n + 1, ⟨_, _, e, r, t⟩ => by subst e; exact ⟨_, _, rfl, r, t.take n⟩
theorem RepL.drop {g : G} : ∀ {ds : List D} {xs : List V} (n : Nat), RepL g ds xs → RepL g (ds.drop n) (xs.drop n)
  | [], _, n, h => by cases h; simp; rfl
  | _ :: _, _, 0, h => h
  | _ :: _, _, n + 1, ⟨_, _, e, r, t⟩ => by subst e; exact t.drop n
theorem RepL.rev {g : G} : ∀ {ds : List D} {xs : List V}, RepL g ds xs → RepL g ds.reverse xs.reverse
  | [], _, h => by cases h; rfl
  | _ :: _, _, ⟨_, _, e, r, t⟩ => by subst e; rw [List.reverse_cons, List.reverse_cons]; exact t.rev.app (RepL.cons r RepL.nil)
theorem RepL.erase {g : G} : ∀ {ds : List D} {xs : List V} (i : Nat), RepL g ds xs → RepL g (ds.eraseIdx i) (xs.eraseIdx i)
  | [], _, _, h => by cases h; rfl
  | _ :: _, _, 0, ⟨_, _, e, _, t⟩ => by subst e; exact t
  | _ :: _, _, i + 1, ⟨_, _, e, q, t⟩ => by subst e; exact ⟨_, _, rfl, q, t.erase i⟩

/-! ### how one place goes on to another -/
structure Pre (g g' : G) : Prop where
  k : g'.K = g.K
  cl : g'.cl = g.cl
  xc : g'.xc = g.xc
  xo : g'.xo = g.xo
  α : ∃ β, g'.α = g.α ++ β
  h : ∀ b o, g.H b = some o → ¬ g.P b → g'.H b = some o
  p : ∀ a, g'.P a → g.P a ∨ g.H a = none
structure Ext (g g' : G) : Prop extends Pre g g' where
  x : ∀ b ∈ g.ex, g'.H b = g.H b
  s : ∀ b ∈ g.ex, b ∈ g'.ex
theorem Pre.refl (g : G) : Pre g g := ⟨rfl, rfl, rfl, rfl, ⟨[], by simp⟩, fun _ _ e _ => e, fun _ h => .inl h⟩
theorem Ext.refl (g : G) : Ext g g := ⟨Pre.refl g, fun _ _ => rfl, fun _ h => h⟩
theorem Ext.trans {g1 g2 g3 : G} (a : Ext g1 g2) (b : Ext g2 g3) : Ext g1 g3 where
  k := b.k.trans a.k
  cl := b.cl.trans a.cl
  xc := b.xc.trans a.xc
  xo := b.xo.trans a.xo
  α := by
    obtain ⟨x, e⟩ := a.α
    obtain ⟨y, f⟩ := b.α
    exact ⟨x ++ y, by rw [f, e, List.append_assoc]⟩
  h := fun q o e n => b.h q o (a.h q o e n) fun z => by
    rcases a.p q z with w | w
    · exact n w
    · rw [w] at e; cases e
  x := fun q hq => (b.x q (a.s q hq)).trans (a.x q hq)
  s := fun q hq => b.s q (a.s q hq)
  p := fun q z => by
    rcases b.p q z with w | w
    · exact a.p q w
    · cases e : g1.H q with
      | none => exact .inr rfl
      | some o =>
        refine .inl (Classical.byContradiction fun n => ?_)
        rw [a.h q o e n] at w; cases w
theorem Pre.get {g g' : G} (e : Pre g g') {n : Nat} {a : Addr} (h : g.α[n]? = some a) : g'.α[n]? = some a := by
  obtain ⟨β, q⟩ := e.α
  rw [q, List.getElem?_append_left (List.getElem?_eq_some_iff.mp h).1]; exact h
theorem Pre.rd {g g' : G} (e : Pre g g') {a : Addr} {u : HO} (h : Rd g.H a u) (n : ¬ g.P a) : Rd g'.H a u ∧ ¬ g'.P a := by
  have np : ∀ o, g.H a = some o → ¬ g'.P a := fun o q z => by
    rcases e.p a z with w | w
    · exact n w
    · rw [w] at q; cases q
  rcases h with h | ⟨o, h⟩
  · exact ⟨.inl (e.h _ _ h n), np _ h⟩
  · exact ⟨.inr ⟨o, e.h _ _ h n⟩, np _ h⟩
theorem Pre.isL {g g' : G} (e : Pre g g') {a : Addr} {xs : List V} (h : g.isL a xs) : g'.isL a xs := by
  rcases h with ⟨h, n⟩ | h
  · exact .inl (e.rd h n)
  · exact .inr (by rw [e.k]; exact h)
theorem Pre.isT {g g' : G} (e : Pre g g') {a : Addr} {xs : List V} (h : g.isT a xs) : g'.isT a xs := by
  rcases h with ⟨h, n⟩ | h
  · exact .inl (e.rd h n)
  · exact .inr (by rw [e.k]; exact h)
theorem Pre.isW {g g' : G} (e : Pre g g') {a : Addr} {xs : List V} (h : g.isW a xs) : g'.isW a xs := ⟨e.h _ _ h.1 h.2, (e.rd (.inl h.1) h.2).2⟩
theorem Pre.isD {g g' : G} (e : Pre g g') {a : Addr} {kvs : List (Key × V)} (h : g.isD a kvs) : g'.isD a kvs := e.rd h.1 h.2
mutual
theorem Rep.pre {g g' : G} (e : Pre g g') : ∀ {d : D} {v : V}, Rep g d v → Rep g' d v
  | .non, _, h => h
  | .bl _, _, h => h
  | .int _, _, h => h
  | .str _, _, h => h
  | .tup ds, _, h => by
    obtain ⟨a, xs, q, t, r⟩ := h
    exact ⟨a, xs, q, e.isT t, RepL.pre e r⟩
  | .lst ds, _, h => by
    obtain ⟨a, xs, q, t, r⟩ := h
    exact ⟨a, xs, q, e.isW t, RepL.pre e r⟩
  | .sq ds, _, h => by
    obtain ⟨a, xs, q, t, r⟩ := h
    exact ⟨a, xs, q, e.isL t, RepL.pre e r⟩
  | .dic ks ds, _, h => by
    obtain ⟨a, xs, q, t, l, r⟩ := h
    exact ⟨a, xs, q, e.isD t, l, RepL.pre e r⟩
  | .obj n, _, h => by
    obtain ⟨a, q, r⟩ := h
    exact ⟨a, e.get q, r⟩
  | .exn c ks ds, _, h => by
    obtain ⟨a, dd, q, r, t⟩ := h
    refine ⟨a, dd, e.xo.trans q, r, t.imp id ?_⟩
    rintro ⟨d, xs, h1, h2, h3, h4, h5⟩
    exact ⟨d, xs, h1, e.h _ _ h2 h3, (fun z => by
      rcases e.p d z with w | w
      · exact h3 w
      · rw [w] at h2; cases h2), h4, RepL.pre e h5⟩
theorem RepL.pre {g g' : G} (e : Pre g g') : ∀ {ds : List D} {xs : List V}, RepL g ds xs → RepL g' ds xs
  | [], _, h => h
  | d :: ds, _, h => by
    obtain ⟨v, vs, q, r, t⟩ := h
    exact ⟨v, vs, q, Rep.pre e r, RepL.pre e t⟩
end
theorem Rep.mono {g g' : G} (e : Ext g g') {d : D} {v : V} (h : Rep g d v) : Rep g' d v := h.pre e.toPre
theorem RepL.mono {g g' : G} (e : Ext g g') {ds : List D} {xs : List V} (h : RepL g ds xs) : RepL g' ds xs := h.pre e.toPre
end Z

namespace Z
open PySem PySem.Spec PyProof.Rows L2

theorem neN {H : Hp} {a p : Addr} (k : H a ≠ none) (h : H p = none) : a ≠ p := fun z => k (by rw [z]; exact h)
theorem neM {a p : Addr} {l : List Addr} (k : a ∈ l) (h : p ∉ l) : a ≠ p := fun z => h (by rw [← z]; exact k)
theorem neP {a p : Addr} {f : Addr → Prop} (k : ¬ f a) (h : f p) : a ≠ p := fun z => k (by rw [z]; exact h)
theorem neI {l : List Addr} {a b : Addr} {i n : Nat} (nd : l.Nodup) (hi : l[i]? = some a) (hn : l[n]? = some b) (e : i ≠ n) (nx : ∀ {l : List Addr}, l.Nodup → ∀ {i j : Nat} {a : Addr}, l[i]? = some a → l[j]? = some a → i = j) : a ≠ b := fun z => e (nx nd hi (by rw [z]; exact hn))
def CellRep (g : G) (a : Addr) : Cell → Prop
  | .lst ds => ∃ xs, g.H a = some (.lst xs) ∧ RepL g ds xs
  | .dic ks ds => ∃ xs, g.H a = some (.dK (ks.zip xs)) ∧ ks.length = xs.length ∧ RepL g ds xs
  | .diT ks ds => ∃ xs, g.H a = some (.dT (ks.zip xs)) ∧ ks.length = xs.length ∧ RepL g ds xs
  | .ins c fs => ∃ C dx xs, g.cl c = some C ∧ g.H a = some (.ins C dx ((fs.map (·.1)).zip xs)) ∧ fs.length = xs.length ∧ RepL g (fs.map (·.2)) xs
  | .fz d => Rep g d (.ref a)
structure MemOk (g : G) : Prop where
  len : g.α.length = g.μ.length
  nd : g.α.Nodup
  tr : ∀ a ∈ g.α, g.H a ≠ none
  exd : ∀ a ∈ g.ex, a ∉ g.α ∧ g.H a ≠ none
  cells : ∀ (n : Nat) (a : Addr) (c : Cell), g.α[n]? = some a → g.μ[n]? = some c → CellRep g a c
theorem MemOk.at {g : G} (m : MemOk g) {n : Nat} {c : Cell} (h : g.μ[n]? = some c) : ∃ a, g.α[n]? = some a ∧ CellRep g a c := by
  have hn : n < g.α.length := by rw [m.len]; exact (List.getElem?_eq_some_iff.mp h).1
  exact ⟨_, List.getElem?_eq_getElem hn, m.cells n _ c (List.getElem?_eq_getElem hn) h⟩
theorem nd_ix {l : List Addr} (h : l.Nodup) {i j : Nat} {a : Addr} (x : l[i]? = some a) (y : l[j]? = some a) : i = j := by
  obtain ⟨h1, e1⟩ := List.getElem?_eq_some_iff.mp x
  obtain ⟨h2, e2⟩ := List.getElem?_eq_some_iff.mp y
  exact (List.getElem_inj h).mp (e1.trans e2.symm)
theorem MemOk.live_at {g : G} (m : MemOk g) {n : Nat} {a : Addr} {c : Cell} (h : g.α[n]? = some a) (k : g.μ[n]? = some c) : g.live a ↔ c.live = true := by
  refine ⟨fun ⟨i, d, x, y, z⟩ => ?_, fun z => ⟨n, c, h, k, z⟩⟩
  have e := nd_ix m.nd x h
  subst e
  rw [k] at y; cases y; exact z
theorem MemOk.not_ex {g : G} (m : MemOk g) {n : Nat} {a : Addr} (h : g.α[n]? = some a) : a ∉ g.ex := fun z => (m.exd a z).1 (List.mem_of_getElem? h)
theorem MemOk.P_at {g : G} (m : MemOk g) {n : Nat} {a : Addr} {c : Cell} (h : g.α[n]? = some a) (k : g.μ[n]? = some c) : g.P a ↔ c.live = true := by
  unfold G.P
  rw [m.live_at h k]
  exact ⟨fun z => z.elim id fun w => absurd w (m.not_ex h), .inl⟩
theorem MemOk.P_tr {g : G} (m : MemOk g) {a : Addr} (h : g.P a) : g.H a ≠ none := by
  rcases h with ⟨n, c, x, _, _⟩ | h
  · exact m.tr a (List.mem_of_getElem? x)
  · exact (m.exd a h).2
theorem MemOk.fresh {g : G} (m : MemOk g) {p : Addr} (h : g.H p = none) : p ∉ g.α ∧ p ∉ g.ex ∧ ¬ g.P p := ⟨fun z => m.tr p z h, fun z => (m.exd p z).2 h, fun z => m.P_tr z h⟩

theorem CellRep.pre {g g' : G} (e : Pre g g') {a : Addr} : ∀ {c : Cell}, (c.live = true → g'.H a = g.H a) → CellRep g a c → CellRep g' a c
  | .lst ds, h, ⟨xs, x, r⟩ => ⟨xs, by rw [h rfl]; exact x, r.pre e⟩
  | .dic ks ds, h, ⟨xs, x, l, r⟩ => ⟨xs, by rw [h rfl]; exact x, l, r.pre e⟩
  | .diT ks ds, h, ⟨xs, x, l, r⟩ => ⟨xs, by rw [h rfl]; exact x, l, r.pre e⟩
  | .ins c fs, h, ⟨C, dx, xs, q, x, l, r⟩ => ⟨C, dx, xs, by rw [e.cl]; exact q, by rw [h rfl]; exact x, l, r.pre e⟩
  | .fz d, h, r => Rep.pre e r

theorem CellRep.mono {g g' : G} (e : Ext g g') {a : Addr} {c : Cell} (h : c.live = true → g'.H a = g.H a) (r : CellRep g a c) : CellRep g' a c := r.pre e.toPre h
/-! ### a new tree -/
def G.put (g : G) (p : Addr) (o : HO) : G := { g with H := upd g.H p o }
theorem G.put_P (g : G) (p : Addr) (o : HO) (a : Addr) : (g.put p o).P a ↔ g.P a := Iff.rfl
theorem Ext.put {g : G} {p : Addr} {o : HO} (h : g.H p = none) (n : p ∉ g.ex) : Ext g (g.put p o) where
  k := rfl
  cl := rfl
  xc := rfl
  xo := rfl
  α := ⟨[], by simp [G.put]⟩
  h := fun b u e _ => by
    show upd g.H p o b = _
    rw [upd_ne (ne_of_none e h)]; exact e
  x := fun b hb => by
    show upd g.H p o b = _
    rw [upd_ne (neM hb n)]
  s := fun _ h => h
  p := fun a z => .inl z
theorem MemOk.put {g : G} (m : MemOk g) {p : Addr} {o : HO} (h : g.H p = none) : MemOk (g.put p o) where
  len := m.len
  nd := m.nd
  tr := fun a ha => by
    show upd g.H p o a ≠ none
    rw [upd_ne (neN (m.tr a ha) h)]; exact m.tr a ha
  exd := fun a ha => ⟨(m.exd a ha).1, by
    show upd g.H p o a ≠ none
    rw [upd_ne (neN (m.exd a ha).2 h)]; exact (m.exd a ha).2⟩
  cells := fun n a c x y => (m.cells n a c x y).mono (Ext.put h (m.fresh h).2.1) fun _ => by
    show upd g.H p o a = _
    rw [upd_ne (neN (m.tr a (List.mem_of_getElem? x)) h)]
theorem G.put_nP {g : G} (m : MemOk g) {p : Addr} {o : HO} (h : g.H p = none) : ¬ (g.put p o).P p := (m.fresh h).2.2
theorem put_lst {g : G} (m : MemOk g) {p : Addr} (h : g.H p = none) {ds : List D} {xs : List V} (r : RepL g ds xs) : Rep (g.put p (.lst xs)) (.lst ds) (.ref p) :=
  ⟨p, xs, rfl, ⟨upd_same, G.put_nP m h⟩, r.mono (Ext.put h (m.fresh h).2.1)⟩
theorem put_tup {g : G} (m : MemOk g) {p : Addr} (h : g.H p = none) {ds : List D} {xs : List V} (r : RepL g ds xs) : Rep (g.put p (.tup xs)) (.tup ds) (.ref p) :=
  ⟨p, xs, rfl, .inl ⟨.inl upd_same, G.put_nP m h⟩, r.mono (Ext.put h (m.fresh h).2.1)⟩
theorem put_dic {g : G} (m : MemOk g) {p : Addr} (h : g.H p = none) {ks : List Key} {ds : List D} {xs : List V} (l : ks.length = xs.length) (r : RepL g ds xs) : Rep (g.put p (.dK (ks.zip xs))) (.dic ks ds) (.ref p) :=
  ⟨p, xs, rfl, ⟨.inl upd_same, G.put_nP m h⟩, l, r.mono (Ext.put h (m.fresh h).2.1)⟩

/-! ### a new cell -/
def G.new (g : G) (p : Addr) (o : HO) (c : Cell) : G := { g with H := upd g.H p o, α := g.α ++ [p], μ := g.μ ++ [c] }
theorem getElem?_snoc {α : Type} {l : List α} {x y : α} {n : Nat} (h : (l ++ [x])[n]? = some y) : l[n]? = some y ∨ (n = l.length ∧ y = x) := by
  by_cases hn : n < l.length
  · rw [List.getElem?_append_left hn] at h; exact .inl h
  · rw [List.getElem?_append_right (by omega)] at h
    cases e : n - l.length with
    | zero => rw [e] at h; simp at h; exact .inr ⟨by omega, h.symm⟩
    | succ k => rw [e] at h; simp at h
theorem MemOk.new_P {g : G} (m : MemOk g) {p : Addr} {o : HO} {c : Cell} {a : Addr} (h : (g.new p o c).P a) : g.P a ∨ a = p := by
  rcases h with ⟨n, d, x, y, z⟩ | h
  · rcases getElem?_snoc x with x | ⟨e1, e2⟩
    · rcases getElem?_snoc y with y | ⟨f1, f2⟩
      · exact .inl (.inl ⟨n, d, x, y, z⟩)
      · have := (List.getElem?_eq_some_iff.mp x).1
        rw [m.len] at this; omega
    · exact .inr e2
  · exact .inl (.inr h)
theorem Ext.new {g : G} (m : MemOk g) {p : Addr} {o : HO} {c : Cell} (h : g.H p = none) : Ext g (g.new p o c) where
  k := rfl
  cl := rfl
  xc := rfl
  xo := rfl
  α := ⟨[p], rfl⟩
  h := fun b u e _ => by
    show upd g.H p o b = _
    rw [upd_ne (ne_of_none e h)]; exact e
  x := fun b hb => by
    show upd g.H p o b = _
    rw [upd_ne (neM hb (m.fresh h).2.1)]
  s := fun _ h => h
  p := fun a z => (m.new_P z).imp id fun e => by rw [e]; exact h
theorem MemOk.new {g : G} (m : MemOk g) {p : Addr} {o : HO} {c : Cell} (h : g.H p = none) (r : CellRep (g.new p o c) p c) : MemOk (g.new p o c) where
  len := by simp [G.new, m.len]
  nd := by
    show (g.α ++ [p]).Nodup
    rw [List.nodup_append]
    exact ⟨m.nd, by simp, fun a ha b hb => by
      simp at hb; subst hb
      exact neM ha (m.fresh h).1⟩
  tr := fun a ha => by
    show upd g.H p o a ≠ none
    rcases List.mem_append.mp ha with ha | ha
    · rw [upd_ne (neN (m.tr a ha) h)]; exact m.tr a ha
    · simp at ha; subst ha; rw [upd_same]; simp
  exd := fun a ha => ⟨fun z => by
    rcases List.mem_append.mp z with z | z
    · exact (m.exd a ha).1 z
    · simp at z; subst z; exact (m.fresh h).2.1 ha, by
    show upd g.H p o a ≠ none
    rw [upd_ne (neN (m.exd a ha).2 h)]; exact (m.exd a ha).2⟩
  cells := fun n a d x y => by
    rcases getElem?_snoc y with y' | ⟨f1, f2⟩
    · have hn : n < g.α.length := by rw [m.len]; exact (List.getElem?_eq_some_iff.mp y').1
      have x' : g.α[n]? = some a := by
        have z : (g.α ++ [p])[n]? = some a := x
        rw [List.getElem?_append_left hn] at z; exact z
      exact (m.cells n a d x' y').mono (Ext.new m h) fun _ => by
        show upd g.H p o a = _
        rw [upd_ne (neN (m.tr a (List.mem_of_getElem? x')) h)]
    · subst f2
      have z : (g.α ++ [p])[n]? = some a := x
      rw [f1, ← m.len] at z
      simp at z
      subst z; exact r
theorem new_lst {g : G} (m : MemOk g) {p : Addr} (h : g.H p = none) {ds : List D} {xs : List V} (r : RepL g ds xs) : MemOk (g.new p (.lst xs) (.lst ds)) :=
  m.new h ⟨xs, upd_same, r.mono (Ext.new m h)⟩
theorem new_at (g : G) (m : MemOk g) (p : Addr) (o : HO) (c : Cell) : Rep (g.new p o c) (.obj g.μ.length) (.ref p) := ⟨p, by
  show (g.α ++ [p])[g.μ.length]? = some p
  rw [← m.len]; simp, rfl⟩

/-! ### a cell is written -/
def G.wr (g : G) (n : Nat) (a : Addr) (o : HO) (c : Cell) : G := { g with H := upd g.H a o, μ := g.μ.set n c }
theorem set_get {α : Type} {l : List α} {n m : Nat} {c d : α} (h : (l.set n c)[m]? = some d) : (m = n ∧ d = c) ∨ (m ≠ n ∧ l[m]? = some d) := by
  by_cases e : m = n
  · subst e
    have hl := (List.getElem?_eq_some_iff.mp h).1
    rw [List.length_set] at hl
    rw [List.getElem?_set_self hl] at h
    exact .inl ⟨rfl, (Option.some.inj h).symm⟩
  · rw [List.getElem?_set_ne (Ne.symm e)] at h
    exact .inr ⟨e, h⟩
theorem MemOk.wr_P {g : G} (m : MemOk g) {n : Nat} {a : Addr} {o : HO} {c c' : Cell} (hα : g.α[n]? = some a) (hμ : g.μ[n]? = some c) (hl : c.live = true) {b : Addr} (h : (g.wr n a o c').P b) : g.P b := by
  rcases h with ⟨i, d, x, y, z⟩ | h
  · rcases set_get y with ⟨e, f⟩ | ⟨e, f⟩
    · subst e
      have e2 : g.α[i]? = some b := x
      exact .inl ⟨i, c, e2, hμ, hl⟩
    · exact .inl ⟨i, d, x, f, z⟩
  · exact .inr h
theorem Ext.wr {g : G} (m : MemOk g) {n : Nat} {a : Addr} {o : HO} {c c' : Cell} (hα : g.α[n]? = some a) (hμ : g.μ[n]? = some c) (hl : c.live = true) : Ext g (g.wr n a o c') where
  k := rfl
  cl := rfl
  xc := rfl
  xo := rfl
  α := ⟨[], by simp [G.wr]⟩
  h := fun b u e np => by
    show upd g.H a o b = _
    rw [upd_ne (neP np ((m.P_at hα hμ).mpr hl))]; exact e
  x := fun b hb => by
    show upd g.H a o b = _
    rw [upd_ne (neM hb (m.not_ex hα))]
  s := fun _ h => h
  p := fun b z => .inl (m.wr_P hα hμ hl z)
theorem MemOk.wr {g : G} (m : MemOk g) {n : Nat} {a : Addr} {o : HO} {c c' : Cell} (hα : g.α[n]? = some a) (hμ : g.μ[n]? = some c) (hl : c.live = true) (r : CellRep (g.wr n a o c') a c') : MemOk (g.wr n a o c') where
  len := by simp [G.wr, m.len]
  nd := m.nd
  tr := fun b hb => by
    show upd g.H a o b ≠ none
    by_cases e : b = a
    · subst e; rw [upd_same]; simp
    · rw [upd_ne e]; exact m.tr b hb
  exd := fun b hb => ⟨(m.exd b hb).1, by
    show upd g.H a o b ≠ none
    rw [upd_ne (neM hb (m.not_ex hα))]; exact (m.exd b hb).2⟩
  cells := fun i b d x y => by
    rcases set_get y with ⟨e, f⟩ | ⟨e, f⟩
    · subst e; subst f
      have e2 : g.α[i]? = some b := x
      rw [hα] at e2; cases e2; exact r
    · exact (m.cells i b d x f).mono (Ext.wr m hα hμ hl) fun _ => by
        show upd g.H a o b = _
        rw [upd_ne (neI m.nd x hα e nd_ix)]

/-! ### a cell is frozen -/
def G.frz (g : G) (n : Nat) (d : D) : G := { g with μ := g.μ.set n (.fz d) }
theorem MemOk.frz_P {g : G} {n : Nat} {d : D} {b : Addr} (h : (g.frz n d).P b) : g.P b := by
  rcases h with ⟨i, e, x, y, z⟩ | h
  · rcases set_get y with ⟨e1, f⟩ | ⟨e1, f⟩
    · subst f; cases z
    · exact .inl ⟨i, e, x, f, z⟩
  · exact .inr h
theorem Ext.frz {g : G} {n : Nat} {d : D} : Ext g (g.frz n d) where
  k := rfl
  cl := rfl
  xc := rfl
  xo := rfl
  α := ⟨[], by simp [G.frz]⟩
  h := fun b u e _ => e
  x := fun _ _ => rfl
  s := fun _ h => h
  p := fun b z => .inl (MemOk.frz_P z)
theorem MemOk.frz_nP {g : G} (m : MemOk g) {n : Nat} {d : D} {a : Addr} (hα : g.α[n]? = some a) : ¬ (g.frz n d).P a := by
  rintro (⟨i, c, x, y, z⟩ | h)
  · have x' : g.α[i]? = some a := x
    have e := nd_ix m.nd x' hα
    subst e
    rcases set_get y with ⟨_, f⟩ | ⟨e1, _⟩
    · subst f; cases z
    · exact e1 rfl
  · exact m.not_ex hα h
theorem MemOk.frz {g : G} (m : MemOk g) {n : Nat} {d : D} {a : Addr} (hα : g.α[n]? = some a) (r : Rep (g.frz n d) d (.ref a)) : MemOk (g.frz n d) where
  len := by simp [G.frz, m.len]
  nd := m.nd
  tr := m.tr
  exd := m.exd
  cells := fun i b c x y => by
    rcases set_get y with ⟨e, f⟩ | ⟨e, f⟩
    · subst e; subst f
      have e2 : g.α[i]? = some b := x
      rw [hα] at e2; cases e2; exact r
    · exact (m.cells i b c x f).mono Ext.frz fun _ => rfl
/-- the tree that a cell becomes -/
def Cell.tree : Cell → Option D
  | .lst ds => some (.lst ds)
  | .dic ks ds => some (.dic ks ds)
  | .fz d => some d
  | _ => none
theorem frz_rep {g : G} (m : MemOk g) {n : Nat} {d : D} {a : Addr} {c : Cell} (hα : g.α[n]? = some a) (hμ : g.μ[n]? = some c) (ht : c.tree = some d) : Rep (g.frz n d) d (.ref a) := by
  have r := m.cells n a c hα hμ
  cases c with
  | lst ds =>
    cases ht
    obtain ⟨xs, e, q⟩ := r
    exact ⟨a, xs, rfl, ⟨e, m.frz_nP hα⟩, q.mono Ext.frz⟩
  | dic ks ds =>
    cases ht
    obtain ⟨xs, e, l, q⟩ := r
    exact ⟨a, xs, rfl, ⟨.inl e, m.frz_nP hα⟩, l, q.mono Ext.frz⟩
  | fz d' =>
    cases ht
    exact Rep.mono Ext.frz r
  | diT _ _ => cases ht
  | ins _ _ => cases ht

/-! ### the slots -/
abbrev Env := List (Option D)
def EnvOk (g : G) (ρ : Env) (σ : L2.St) : Prop := ρ.length = σ.length ∧ ∀ (i : Nat) (d : D), ρ[i]? = some (some d) → ∃ v, σ[i]? = some (some v) ∧ Rep g d v
theorem EnvOk.mono {g g' : G} {ρ : Env} {σ : L2.St} (e : Ext g g') (h : EnvOk g ρ σ) : EnvOk g' ρ σ := ⟨h.1, fun i d q => by
  obtain ⟨v, a, r⟩ := h.2 i d q
  exact ⟨v, a, r.mono e⟩⟩
theorem EnvOk.set {g : G} {ρ : Env} {σ : L2.St} (h : EnvOk g ρ σ) (i : Nat) {d : D} {v : V} (r : Rep g d v) : EnvOk g (ρ.set i (some d)) (σ.set i (some v)) := ⟨by simp [h.1], fun j e q => by
  rcases set_get q with ⟨e1, f⟩ | ⟨e1, f⟩
  · subst e1
    cases f
    have hl := (List.getElem?_eq_some_iff.mp q).1
    rw [List.length_set, h.1] at hl
    exact ⟨v, List.getElem?_set_self hl, r⟩
  · obtain ⟨v', a, r'⟩ := h.2 j e f
    exact ⟨v', by rw [List.getElem?_set_ne (Ne.symm e1)]; exact a, r'⟩⟩
theorem EnvOk.unset {g : G} {ρ : Env} {σ : L2.St} (h : EnvOk g ρ σ) (i : Nat) : EnvOk g (ρ.set i none) (σ.set i none) := ⟨by simp [h.1], fun j e q => by
  rcases set_get q with ⟨e1, f⟩ | ⟨e1, f⟩
  · cases f
  · obtain ⟨v', a, r'⟩ := h.2 j e f
    exact ⟨v', by rw [List.getElem?_set_ne (Ne.symm e1)]; exact a, r'⟩⟩
def wipeD (ρ : Env) : List Nat → Env
  | [] => ρ
  | v :: vs => (wipeD ρ vs).set v none
theorem EnvOk.wipe {g : G} {ρ : Env} {σ : L2.St} (h : EnvOk g ρ σ) : ∀ vs : List Nat, EnvOk g (wipeD ρ vs) (L2.wipe σ vs)
  | [] => h
  | v :: vs => (EnvOk.wipe h vs).unset v

/-! ### what is wanted of an outcome -/
def ExRep (g : G) (e : Ex) (C : Value) (dd : Option Addr) : Prop := ∃ c, g.xc e.cls = some c ∧ C = .ref c ∧
  ((e.fs = [] ∧ dd = none) ∨ ∃ d xs, dd = some d ∧ g.H d = some (.xd ((e.fs.map (·.1)).zip xs)) ∧ ¬ g.P d ∧ e.fs.length = xs.length ∧ RepL g (e.fs.map (·.2)) xs)
def Out {α β : Type} (RR : G → α → β → Prop) (E : XK) (g : G) (r : R α) (Q : β → Hp → Prop) : Prop :=
  match r with
  | .ok a μ => ∀ (g' : G) (b : β), g'.μ = μ → MemOk g' → Ext g g' → RR g' a b → Q b g'.H
  | .exc e μ => ∀ (g' : G) (C : Value) (dd : Option Addr), g'.μ = μ → MemOk g' → Ext g g' → ExRep g' e C dd → E C dd g'.H
  | .bad => False
theorem Out.bind {α β γ δ : Type} {RR : G → α → β → Prop} {RR2 : G → γ → δ → Prop} {E : XK} {g : G} {r : R α} {k : α → Mem → R γ} {Q : β → Hp → Prop} {Q2 : δ → Hp → Prop} (h : Out RR2 E g (r.bind k) Q2)
    (hk : ∀ (a : α) (g1 : G) (b : β), MemOk g1 → Ext g g1 → RR g1 a b → Out RR2 E g1 (k a g1.μ) Q2 → Q b g1.H) : Out RR E g r Q := by
  cases r with
  | ok a μ =>
    intro g1 b e m x rr
    subst e
    refine hk a g1 b m x rr ?_
    show Out RR2 E g1 (k a g1.μ) Q2
    have h' : Out RR2 E g (k a g1.μ) Q2 := h
    cases q : k a g1.μ with
    | ok c μ2 =>
      rw [q] at h'
      exact fun g2 d e2 m2 x2 r2 => h' g2 d e2 m2 (x.trans x2) r2
    | exc e μ2 =>
      rw [q] at h'
      exact fun g2 C dd e2 m2 x2 r2 => h' g2 C dd e2 m2 (x.trans x2) r2
    | bad => rw [q] at h'; exact h'
  | exc e μ => exact h
  | bad => exact h
theorem Out.imp {α β : Type} {RR : G → α → β → Prop} {E : XK} {g : G} {r : R α} {Q Q2 : β → Hp → Prop} (h : Out RR E g r Q) (q : ∀ b H, Q b H → Q2 b H) : Out RR E g r Q2 := by
  cases r with
  | ok a μ => exact fun g' b e m x rr => q _ _ (h g' b e m x rr)
  | exc e μ => exact h
  | bad => exact h
theorem Out.from {α β : Type} {RR : G → α → β → Prop} {E : XK} {g g1 : G} {r : R α} {Q : β → Hp → Prop} (h : Out RR E g r Q) (x : Ext g g1) : Out RR E g1 r Q := by
  cases r with
  | ok a μ => exact fun g' b e m y rr => h g' b e m (x.trans y) rr
  | exc e μ => exact fun g' C dd e m y rr => h g' C dd e m (x.trans y) rr
  | bad => exact h
end Z

namespace Z
open PySem PySem.Spec PyProof.Rows L2

/-! ### meanings, and what it is to have one -/
abbrev Sem := Env → Mem → R D
abbrev SemT := Env → Mem → R Bool
abbrev SemA := Env → Mem → R (List D)
structure Fx where
  K : PySem.W.Frag
  cl : Nat → Option Addr
  xc : Str → Option Addr
  xo : Option (Addr × Str × Option Addr)
def G.fx (g : G) : Fx := ⟨g.K, g.cl, g.xc, g.xo⟩
theorem Ext.fx {g g' : G} (e : Ext g g') : g'.fx = g.fx := by
  unfold G.fx
  rw [e.k, e.cl, e.xc, e.xo]
def tW {α β : Type} (RR : G → α → β → Prop) (F : Fx) (W : WX) (f : Env → Mem → R α) : L2.St → Hp → (β → Hp → Prop) → Prop := fun σ H Q =>
  ∃ (g : G) (ρ : Env), g.fx = F ∧ g.H = H ∧ MemOk g ∧ EnvOk g ρ σ ∧ Out RR (fun c d H' => W c d σ H') g (f ρ g.μ) Q
def RepB (_ : G) (b : Bool) (c : Bool) : Prop := c = b
abbrev tE (F : Fx) (W : WX) (f : Sem) : TE := tW Rep F W f
abbrev tT (F : Fx) (W : WX) (f : SemT) : TT := tW RepB F W f
abbrev tA (F : Fx) (W : WX) (f : SemA) : TA := tW RepL F W f
def SE (X : Cx) (F : Fx) (W : WX) (e : Expr) (f : Sem) : Prop := PE X e (tE F W f)
def ST (X : Cx) (F : Fx) (W : WX) (e : Expr) (f : SemT) : Prop := PT X e (tT F W f)
def SA (X : Cx) (F : Fx) (W : WX) (es : List Expr) (f : SemA) : Prop := PA X es (tA F W f)
theorem PE.imp {X : Cx} {e : Expr} {t t' : TE} (h : PE X e t) (k : ∀ σ H Q, t' σ H Q → t σ H Q) : PE X e t' := ⟨fun pins s σ H Q I w => h.run pins s σ H Q I (k σ H Q w)⟩
theorem PT.imp {X : Cx} {e : Expr} {t t' : TT} (h : PT X e t) (k : ∀ σ H Q, t' σ H Q → t σ H Q) : PT X e t' := ⟨fun pins s σ H Q I w => h.run pins s σ H Q I (k σ H Q w)⟩
theorem PW.imp {X : Cx} {e : Expr} {t t' : TT} (h : PW X e t) (k : ∀ σ H Q, t' σ H Q → t σ H Q) : PW X e t' := ⟨fun wh pins s σ H Q I w => h.run wh pins s σ H Q I (k σ H Q w)⟩
theorem PA.imp {X : Cx} {es : List Expr} {t t' : TA} (h : PA X es t) (k : ∀ σ H Q, t' σ H Q → t σ H Q) : PA X es t' := ⟨fun pos pins s σ H Q I w => h.run pos pins s σ H Q I (k σ H Q w)⟩
/-- the move: the first part's reading, then on from there -/
theorem tW.bind {α β γ δ : Type} {RR : G → α → β → Prop} {RR2 : G → γ → δ → Prop} {F : Fx} {W : WX} {f : Env → Mem → R α} {k : Env → α → Mem → R γ} {σ : L2.St} {H : Hp} {Q2 : δ → Hp → Prop} {Q : β → Hp → Prop}
    (h : tW RR2 F W (fun ρ μ => (f ρ μ).bind (k ρ)) σ H Q2)
    (hk : ∀ (g : G) (ρ : Env) (a : α) (b : β), g.fx = F → MemOk g → EnvOk g ρ σ → RR g a b → Out RR2 (fun c d H' => W c d σ H') g (k ρ a g.μ) Q2 → Q b g.H) : tW RR F W f σ H Q := by
  obtain ⟨g, ρ, e, rfl, m, v, o⟩ := h
  exact ⟨g, ρ, e, rfl, m, v, o.bind fun a g1 b m1 x r o1 => hk g1 ρ a b (x.fx.trans e) m1 (v.mono x) r o1⟩

/-! ### operations on data that cannot raise -/
def R.of {α : Type} : Option (α × Mem) → R α
  | some (a, μ) => .ok a μ
  | none => .bad
def R.ofP {α : Type} (μ : Mem) : Option α → R α
  | some a => .ok a μ
  | none => .bad
/-- by values, as an operator's rule wants it -/
def rD2 (F : Fx) (op : D → D → Mem → R D) : R2 := fun x y H Q => ∃ (g : G) (a b : D), g.fx = F ∧ g.H = H ∧ MemOk g ∧ Rep g a x ∧ Rep g b y ∧ Out Rep (fun _ _ _ => False) g (op a b g.μ) Q
def rD1 (F : Fx) (op : D → Mem → R D) : V → Hp → VK → Prop := fun x H Q => ∃ (g : G) (a : D), g.fx = F ∧ g.H = H ∧ MemOk g ∧ Rep g a x ∧ Out Rep (fun _ _ _ => False) g (op a g.μ) Q
def rDA (F : Fx) (op : List D → Mem → R D) : List V → Hp → VK → Prop := fun xs H Q => ∃ (g : G) (ds : List D), g.fx = F ∧ g.H = H ∧ MemOk g ∧ RepL g ds xs ∧ Out Rep (fun _ _ _ => False) g (op ds g.μ) Q
def rDM (F : Fx) (op : D → List D → Mem → R D) : V → List V → Hp → VK → Prop := fun x xs H Q => ∃ (g : G) (a : D) (ds : List D), g.fx = F ∧ g.H = H ∧ MemOk g ∧ Rep g a x ∧ RepL g ds xs ∧ Out Rep (fun _ _ _ => False) g (op a ds g.μ) Q
/-- no exception: then any wish will do -/
def R.calm {α : Type} : R α → Prop
  | .exc _ _ => False
  | _ => True
theorem Out.calm {α β : Type} {RR : G → α → β → Prop} {E E' : XK} {g : G} {r : R α} {Q : β → Hp → Prop} (h : Out RR E g r Q) (c : r.calm) : Out RR E' g r Q := by
  cases r with
  | ok a μ => exact h
  | exc e μ => exact c.elim
  | bad => exact h
theorem R.calm_of {α : Type} (o : Option (α × Mem)) : (R.of o).calm := by
  cases o with
  | none => trivial
  | some p => trivial
theorem R.calm_ofP {α : Type} (μ : Mem) (o : Option α) : (R.ofP μ o).calm := by
  cases o with
  | none => trivial
  | some p => trivial
/-- an outcome without a change -/
theorem Out.here {α β : Type} {RR : G → α → β → Prop} {E : XK} {g : G} {a : α} {b : β} {Q : β → Hp → Prop} (h : Out RR E g (.ok a g.μ) Q) (m : MemOk g) (r : RR g a b) : Q b g.H := h g b rfl m (Ext.refl g) r
theorem Out.ofP {α β : Type} {RR : G → α → β → Prop} {E : XK} {g : G} {o : Option α} {Q : β → Hp → Prop} (h : Out RR E g (R.ofP g.μ o) Q) : ∃ a, o = some a ∧ Out RR E g (.ok a g.μ) Q := by
  cases o with
  | none => exact h.elim
  | some a => exact ⟨a, rfl, h⟩

/-! ### the combinators -/
def fC (d : D) : Sem := fun _ μ => .ok d μ
def Env.at (ρ : Env) (i : Nat) : Option D := (ρ[i]?).getD none
def fV (i : Nat) : Sem := fun ρ μ => R.ofP μ (Env.at ρ i)
theorem Env.at_some {ρ : Env} {i : Nat} {d : D} (h : Env.at ρ i = some d) : ρ[i]? = some (some d) := by
  unfold Env.at at h
  cases e : ρ[i]? with
  | none => rw [e] at h; cases h
  | some o => rw [e] at h; simp at h; rw [h]
/-- a variable whose cell becomes a tree -/
def frzD (d : D) (μ : Mem) : R D := match d with
  | .obj n => match μ[n]? with
    | some c => match c.tree with
      | some t => .ok t (μ.set n (.fz t))
      | none => .bad
    | none => .bad
  | d => .ok d μ
def fFz (i : Nat) : Sem := fun ρ μ => (fV i ρ μ).bind frzD
def fOp2 (op : D → D → Mem → R D) (a b : Sem) : Sem := fun ρ μ => (a ρ μ).bind fun x μ => (b ρ μ).bind fun y μ => op x y μ
def fOp1 (op : D → Mem → R D) (a : Sem) : Sem := fun ρ μ => (a ρ μ).bind op
def fNil : SemA := fun _ μ => .ok [] μ
def fCons (a : Sem) (r : SemA) : SemA := fun ρ μ => (a ρ μ).bind fun x μ => (r ρ μ).bind fun xs μ => .ok (x :: xs) μ
def fTup (es : SemA) : Sem := fun ρ μ => (es ρ μ).bind fun ds μ => if ds.length ≤ sizeLine then .ok (.tup ds) μ else .bad
/-- the new list of these, as its items -/
def fItems (es : SemA) : SemA := fun ρ μ => (es ρ μ).bind fun ds μ => if ds.length ≤ sizeLine then .ok ds μ else .bad
/-- a new list, as a tree; in a cell -/
def fTree (f : SemA) : Sem := fun ρ μ => (f ρ μ).bind fun ds μ => .ok (.lst ds) μ
def fBox (f : SemA) : Sem := fun ρ μ => (f ρ μ).bind fun ds μ => .ok (.obj μ.length) (μ ++ [.lst ds])
def fIf (t : SemT) (a b : Sem) : Sem := fun ρ μ => (t ρ μ).bind fun c μ => if c = true then a ρ μ else b ρ μ

section
variable {X : Cx} {F : Fx} {W : WX} {a b c e : Expr} {fa fb fc fe : Sem} {pos : Pos}
/-! ### names and constants -/
theorem se_int {i : Int} {j : Nat} : SE X F W (.Constant (.int i) j pos) (fC (.int i)) := PE.imp pe_int fun _ _ _ ⟨g, ρ, _, e2, m, _, o⟩ => by subst e2; exact o.here m rfl
theorem se_str {x : Str} {j : Nat} : SE X F W (.Constant (.str x) j pos) (fC (.str x)) := PE.imp pe_str fun _ _ _ ⟨g, ρ, _, e2, m, _, o⟩ => by subst e2; exact o.here m rfl
theorem se_bl {x : Bool} {j : Nat} : SE X F W (.Constant (.bool x) j pos) (fC (.bl x)) := PE.imp pe_bl fun _ _ _ ⟨g, ρ, _, e2, m, _, o⟩ => by subst e2; exact o.here m rfl
theorem se_non {j : Nat} : SE X F W (.Constant .none j pos) (fC .non) := PE.imp pe_non fun _ _ _ ⟨g, ρ, _, e2, m, _, o⟩ => by subst e2; exact o.here m rfl
theorem se_v (i : Nat) {x : Str} (hN : X.N[i]? = some x := by rfl) (hv : Vis X.env.scope x := by first | exact .inl rfl | exact .inr (.inl rfl) | exact .inr (.inr rfl)) (hd : (x == ("__debug__" : Str)) = false := by decide) (hcd : (x == ("__classdict__" : Str)) = false := by decide) : SE X F W (.Name x pos) (fV i) :=
  PE.imp (pe_var (i := i) hN hv hd hcd) fun σ H Q ⟨g, ρ, _, e2, m, v, o⟩ => by
    subst e2
    obtain ⟨d, e, o⟩ := Out.ofP o
    obtain ⟨w, h1, h2⟩ := v.2 i d (Env.at_some e)
    exact ⟨w, h1, o.here m h2⟩
theorem se_fz (i : Nat) {x : Str} (hN : X.N[i]? = some x := by rfl) (hv : Vis X.env.scope x := by first | exact .inl rfl | exact .inr (.inl rfl) | exact .inr (.inr rfl)) (hd : (x == ("__debug__" : Str)) = false := by decide) (hcd : (x == ("__classdict__" : Str)) = false := by decide) : SE X F W (.Name x pos) (fFz i) :=
  PE.imp (pe_var (i := i) hN hv hd hcd) fun σ H Q ⟨g, ρ, _, e2, m, v, o⟩ => by
    subst e2
    unfold fFz fV at o
    cases e : Env.at ρ i with
    | none => rw [e] at o; exact o.elim
    | some d =>
      rw [e] at o
      obtain ⟨w, h1, h2⟩ := v.2 i d (Env.at_some e)
      refine ⟨w, h1, ?_⟩
      have o' : Out Rep (fun c d H' => W c d σ H') g (frzD d g.μ) Q := o
      unfold frzD at o'
      split at o'
      · rename_i n
        obtain ⟨aa, q1, rfl⟩ := h2
        split at o'
        · rename_i cc hc
          split at o'
          · rename_i t ht
            exact o' (g.frz n t) (.ref aa) rfl (m.frz q1 (frz_rep m q1 hc ht)) Ext.frz (frz_rep m q1 hc ht)
          · exact o'.elim
        · exact o'.elim
      · exact o'.here m h2
/-! ### operators -/
theorem se_op2 {op : Operator} {f : D → D → Mem → R D} (hc : ∀ x y μ, (f x y μ).calm) (ho : OpR X (binaryOp op) (rD2 F f)) (ha : SE X F W a fa) (hb : SE X F W b fb) : SE X F W (.BinOp a op b pos) (fOp2 f fa fb) :=
  PE.imp (pe_op ho ha hb) fun σ H Q h => tW.bind h fun g ρ x v e m w r o => by
    have h2 : tE F W (fun ρ' μ => (fb ρ' μ).bind fun y μ => f x y μ) σ g.H Q := ⟨g, ρ, e, rfl, m, w, o⟩
    obtain ⟨g0, ρ0, e0, h0, m0, w0, o0⟩ := h2
    refine ⟨g, ρ, e, rfl, m, w, o.bind fun y g1 u m1 x1 r1 o1 => ?_⟩
    exact ⟨g1, x, y, x1.fx.trans e, rfl, m1, r.mono x1, r1, o1.calm (hc _ _ _)⟩
theorem se_cmp2 {op : CmpOp} {f : D → D → Mem → R D} (hc : ∀ x y μ, (f x y μ).calm) (ho : OpR X (compareOp op) (rD2 F f)) (ha : SE X F W a fa) (hb : SE X F W b fb) (hm : behindInMarks op b = false := by first | exact nomark _ | rfl) : SE X F W (.Compare a [op] [b] pos) (fOp2 f fa fb) :=
  PE.imp (pe_cmpR ho ha hb hm) fun σ H Q h => tW.bind h fun g ρ x v e m w r o =>
    ⟨g, ρ, e, rfl, m, w, o.bind fun y g1 u m1 x1 r1 o1 => ⟨g1, x, y, x1.fx.trans e, rfl, m1, r.mono x1, r1, o1.calm (hc _ _ _)⟩⟩
theorem se_op1 {op : UnaryOp} {f : D → Mem → R D} (hc : ∀ x μ, (f x μ).calm) (ho : UnR X (unaryOp op) (rD1 F f)) (ha : SE X F W a fa) : SE X F W (.UnaryOp op a pos) (fOp1 f fa) :=
  PE.imp (pe_un ho ha) fun σ H Q h => tW.bind h fun g ρ x v e m w r o => ⟨g, x, e, rfl, m, r, o.calm (hc _ _)⟩
/-! ### lists of arguments, displays -/
theorem sa_nil : SA X F W [] fNil := PA.imp pa_nil fun σ H Q ⟨g, ρ, _, e2, m, _, o⟩ => by subst e2; exact o.here m RepL.nil
theorem sa_cons {es : List Expr} {r : SemA} (ha : SE X F W a fa) (hr : SA X F W es r) (hs : starEach (a :: es) X.env = (false, eval a X.env) :: starEach es X.env := by rfl) : SA X F W (a :: es) (fCons fa r) :=
  PA.imp (pa_cons ha hr hs) fun σ H Q h => tW.bind h fun g ρ x v e m w r o =>
    ⟨g, ρ, e, rfl, m, w, o.bind fun xs g1 vs m1 x1 r1 o1 => o1.here m1 (RepL.cons (r.mono x1) r1)⟩
end
end Z

namespace Z
open PySem PySem.Spec PyProof.Rows L2

/-! ### new lists -/
def tF (F : Fx) (W : WX) (f : SemA) : TE := fun σ H Q =>
  ∃ (g : G) (ρ : Env), g.fx = F ∧ g.H = H ∧ MemOk g ∧ EnvOk g ρ σ ∧ Out RepL (fun c d H' => W c d σ H') g (f ρ g.μ) (fun xs H' => ∀ p, H' p = none → Q (.ref p) (upd H' p (.lst xs)))
def SF (X : Cx) (F : Fx) (W : WX) (e : Expr) (f : SemA) : Prop := PE X e (tF F W f)
theorem Out.of_bind {α β γ δ : Type} {RR : G → α → β → Prop} {RR2 : G → γ → δ → Prop} {E : XK} {g : G} {r : R α} {k : α → Mem → R γ} {Q : β → Hp → Prop} {Q2 : δ → Hp → Prop} (h : Out RR2 E g (r.bind k) Q2)
    (hk : ∀ (a : α) (g1 : G) (b : β), MemOk g1 → Ext g g1 → RR g1 a b → Out RR2 E g1 (k a g1.μ) Q2 → Q b g1.H) : Out RR E g r Q := h.bind hk
section
variable {X : Cx} {F : Fx} {W : WX} {a b c e : Expr} {fa fb fc fe : Sem} {f : SemA} {pos : Pos}
theorem se_tree (h : SF X F W e f) : SE X F W e (fTree f) := PE.imp h fun σ H Q ⟨g, ρ, e1, e2, m, v, o⟩ => ⟨g, ρ, e1, e2, m, v, o.bind fun ds g1 xs m1 x1 r1 o1 p hp =>
  o1 (g1.put p (.lst xs)) (.ref p) rfl (m1.put hp) (Ext.put hp (m1.fresh hp).2.1) (put_lst m1 hp r1)⟩
theorem se_box (h : SF X F W e f) : SE X F W e (fBox f) := PE.imp h fun σ H Q ⟨g, ρ, e1, e2, m, v, o⟩ => ⟨g, ρ, e1, e2, m, v, o.bind fun ds g1 xs m1 x1 r1 o1 p hp =>
  o1 (g1.new p (.lst xs) (.lst ds)) (.ref p) rfl (new_lst m1 hp r1) (Ext.new m1 hp) (new_at g1 m1 p _ _)⟩
theorem sf_lst {es : List Expr} (h : SA X F W es f) : SF X F W (.List es pos) (fItems f) := PE.imp (pe_lst h) fun σ H Q ⟨g, ρ, e1, e2, m, v, o⟩ => by
  refine ⟨g, ρ, e1, e2, m, v, ?_⟩
  refine o.of_bind fun ds g1 xs m1 x1 r1 o1 => ?_
  by_cases hl : ds.length ≤ sizeLine
  · rw [if_pos hl] at o1
    exact ⟨by rw [← r1.length]; exact hl, fun p hp => o1.here m1 r1 p hp⟩
  · rw [if_neg hl] at o1; exact o1.elim
theorem se_tup {es : List Expr} {k : Nat} (h : SA X F W es f) : SE X F W (.Tuple es k pos) (fTup f) := PE.imp (pe_tup h) fun σ H Q ⟨g, ρ, e1, e2, m, v, o⟩ => by
  refine ⟨g, ρ, e1, e2, m, v, ?_⟩
  refine o.of_bind fun ds g1 xs m1 x1 r1 o1 => ?_
  by_cases hl : ds.length ≤ sizeLine
  · rw [if_pos hl] at o1
    exact ⟨by rw [← r1.length]; exact hl, fun p hp => o1 (g1.put p (.tup xs)) (.ref p) rfl (m1.put hp) (Ext.put hp (m1.fresh hp).2.1) (put_tup m1 hp r1)⟩
  · rw [if_neg hl] at o1; exact o1.elim
end

/-! ### reading -/
def lstD (μ : Mem) : D → Option (List D)
  | .lst ds => some ds
  | .sq ds => some ds
  | .obj n => match μ[n]? with
    | some (.lst ds) => some ds
    | some (.fz (.lst ds)) => some ds
    | _ => none
  | _ => none
def tupD : D → Option (List D)
  | .tup ds => some ds
  | _ => none
theorem lstD_rep {g : G} (m : MemOk g) {d : D} {v : V} {ds : List D} (r : Rep g d v) (h : lstD g.μ d = some ds) : ∃ a xs, v = .ref a ∧ SqL g.K g.H a xs ∧ RepL g ds xs := by
  cases d with
  | lst es => cases h; obtain ⟨a, xs, e, q, t⟩ := r; exact ⟨a, xs, e, q.sq, t⟩
  | sq es => cases h; obtain ⟨a, xs, e, q, t⟩ := r; exact ⟨a, xs, e, q.sq, t⟩
  | obj n =>
    obtain ⟨a, q, rfl⟩ := r
    cases e : g.μ[n]? with
    | none => simp [lstD, e] at h
    | some c =>
      have cr := m.cells n a c q e
      cases c with
      | lst es => simp [lstD, e] at h; subst h; obtain ⟨xs, h1, t⟩ := cr; exact ⟨a, xs, rfl, .inl (.inl h1), t⟩
      | fz d =>
        cases d with
        | lst es => simp [lstD, e] at h; subst h; obtain ⟨a', xs, e1, q1, t⟩ := cr; exact ⟨a', xs, e1, q1.sq, t⟩
        | _ => simp [lstD, e] at h
      | _ => simp [lstD, e] at h
  | _ => simp [lstD] at h
/-- .. where it is a list that is tracked as such -/
def lstW (μ : Mem) : D → Option (List D)
  | .lst ds => some ds
  | .obj n => match μ[n]? with
    | some (.lst ds) => some ds
    | some (.fz (.lst ds)) => some ds
    | _ => none
  | _ => none
theorem lstW_rep {g : G} (m : MemOk g) {d : D} {v : V} {ds : List D} (r : Rep g d v) (h : lstW g.μ d = some ds) : ∃ a xs, v = .ref a ∧ g.H a = some (.lst xs) ∧ RepL g ds xs := by
  cases d with
  | lst es => cases h; obtain ⟨a, xs, e, q, t⟩ := r; exact ⟨a, xs, e, q.1, t⟩
  | obj n =>
    obtain ⟨a, q, rfl⟩ := r
    cases e : g.μ[n]? with
    | none => simp [lstW, e] at h
    | some c =>
      have cr := m.cells n a c q e
      cases c with
      | lst es => simp [lstW, e] at h; subst h; obtain ⟨xs, h1, t⟩ := cr; exact ⟨a, xs, rfl, h1, t⟩
      | fz d =>
        cases d with
        | lst es => simp [lstW, e] at h; subst h; obtain ⟨a', xs, e1, q1, t⟩ := cr; exact ⟨a', xs, e1, q1.1, t⟩
        | _ => simp [lstW, e] at h
      | _ => simp [lstW, e] at h
  | _ => simp [lstW] at h
theorem tupD_rep {g : G} {d : D} {v : V} {ds : List D} (r : Rep g d v) (h : tupD d = some ds) : ∃ a xs, v = .ref a ∧ SqT g.K g.H a xs ∧ RepL g ds xs := by
  cases d with
  | tup es => cases h; obtain ⟨a, xs, e, q, t⟩ := r; exact ⟨a, xs, e, q.sq, t⟩
  | _ => simp [tupD] at h
/-- a dict's rows -/
def dicD (μ : Mem) : D → Option (List Key × List D)
  | .dic ks vs => some (ks, vs)
  | .obj n => match μ[n]? with
    | some (.dic ks vs) => some (ks, vs)
    | some (.fz (.dic ks vs)) => some (ks, vs)
    | _ => none
  | _ => none
theorem dicD_rep {g : G} (m : MemOk g) {d : D} {v : V} {ks : List Key} {ds : List D} (r : Rep g d v) (h : dicD g.μ d = some (ks, ds)) : ∃ a xs, v = .ref a ∧ Rd g.H a (.dK (ks.zip xs)) ∧ ks.length = xs.length ∧ RepL g ds xs := by
  cases d with
  | dic ks' es => cases h; obtain ⟨a, xs, e, q, l, t⟩ := r; exact ⟨a, xs, e, q.1, l, t⟩
  | obj n =>
    obtain ⟨a, q, rfl⟩ := r
    cases e : g.μ[n]? with
    | none => simp [dicD, e] at h
    | some c =>
      have cr := m.cells n a c q e
      cases c with
      | dic ks' es => simp [dicD, e] at h; obtain ⟨rfl, rfl⟩ := h; obtain ⟨xs, h1, l, t⟩ := cr; exact ⟨a, xs, rfl, .inl h1, l, t⟩
      | fz d =>
        cases d with
        | dic ks' es => simp [dicD, e] at h; obtain ⟨rfl, rfl⟩ := h; obtain ⟨a', xs, e1, q1, l, t⟩ := cr; exact ⟨a', xs, e1, q1.1, l, t⟩
        | _ => simp [dicD, e] at h
      | _ => simp [dicD, e] at h
  | _ => simp [dicD] at h
/-! ### truth -/
def truD (μ : Mem) (d : D) : Option Bool := match d with
  | .non => some false
  | .bl b => some b
  | .int i => some (i != 0)
  | .str x => if x.length ≤ sizeLine then some (decide (x.length ≠ 0)) else none
  | .tup ds => some (!ds.isEmpty)
  | d => (lstD μ d).map fun ds => !ds.isEmpty
theorem RepL.empty {g : G} {ds : List D} {xs : List V} (h : RepL g ds xs) : ds.isEmpty = xs.isEmpty := by
  have := h.length
  cases ds <;> cases xs <;> simp_all
theorem truD_lst {g : G} (m : MemOk g) {d : D} {v : V} {ds : List D} (r : Rep g d v) (h : lstD g.μ d = some ds) : TruV g.K v g.H (!ds.isEmpty) := by
  obtain ⟨a, xs, rfl, q, t⟩ := lstD_rep m r h
  exact .inl ⟨xs, q, by rw [t.empty]⟩
theorem truD_map {g : G} (m : MemOk g) {d : D} {v : V} {k : Bool} (r : Rep g d v) (h : ((lstD g.μ d).map fun ds => !ds.isEmpty) = some k) : TruV g.K v g.H k := by
  cases e : lstD g.μ d with
  | none => rw [e] at h; cases h
  | some ds => rw [e] at h; cases h; exact truD_lst m r e
theorem truD_ok {g : G} (m : MemOk g) {d : D} {v : V} {k : Bool} (r : Rep g d v) (h : truD g.μ d = some k) : TruV g.K v g.H k := by
  cases d with
  | non => cases h; cases r; rfl
  | bl b => cases h; cases r; rfl
  | int i => cases h; cases r; rfl
  | str x =>
    have r' : v = .str x := r
    subst r'
    simp only [truD] at h
    split at h
    · rename_i hl
      cases h
      refine ⟨hl, ?_⟩
      by_cases e : x.length = 0
      · rw [e]; rfl
      · have : ((x.length : Int) != 0) = true := by simp; omega
        rw [this]; simp [e]
    · cases h
  | tup ds =>
    cases h
    obtain ⟨a, xs, rfl, q, t⟩ := r
    exact .inr (.inl ⟨xs, q.sq, by rw [t.empty]⟩)
  | lst ds => exact truD_map m r h
  | sq ds => exact truD_map m r h
  | dic ks vs => exact truD_map m r h
  | obj n => exact truD_map m r h
  | exn c ks vs => exact truD_map m r h

/-! ### tests -/
def fTru (f : Sem) : SemT := fun ρ μ => (f ρ μ).bind fun d μ => R.ofP μ (truD μ d)
abbrev Cm := D → D → Mem → Option Bool
def fCmp (c : Cm) (a b : Sem) : Sem := fun ρ μ => (a ρ μ).bind fun x μ => (b ρ μ).bind fun y μ => R.ofP μ ((c x y μ).map D.bl)
def tCmp (c : Cm) (a b : Sem) : SemT := fun ρ μ => (a ρ μ).bind fun x μ => (b ρ μ).bind fun y μ => R.ofP μ (c x y μ)
def fChain (c c' : Cm) (a b e : Sem) : Sem := fun ρ μ => (a ρ μ).bind fun x μ => (b ρ μ).bind fun y μ => (R.ofP μ (c x y μ)).bind fun k μ => if k = true then (e ρ μ).bind fun z μ => R.ofP μ ((c' y z μ).map D.bl) else .ok (.bl false) μ
def tChain (c c' : Cm) (a b e : Sem) : SemT := fun ρ μ => (a ρ μ).bind fun x μ => (b ρ μ).bind fun y μ => (R.ofP μ (c x y μ)).bind fun k μ => if k = true then (e ρ μ).bind fun z μ => R.ofP μ (c' y z μ) else .ok false μ
def tAnd (a b : SemT) : SemT := fun ρ μ => (a ρ μ).bind fun k μ => if k = true then b ρ μ else .ok false μ
def tOr (a b : SemT) : SemT := fun ρ μ => (a ρ μ).bind fun k μ => if k = true then .ok true μ else b ρ μ
def tNot (a : SemT) : SemT := fun ρ μ => (a ρ μ).bind fun k μ => .ok (!k) μ
/-- and, or, not as values: of truth values alone -/
def blD : D → Option Bool
  | .bl b => some b
  | _ => none
def fAnd (a b : Sem) : Sem := fun ρ μ => (a ρ μ).bind fun x μ => (R.ofP μ (blD x)).bind fun k μ => if k = true then b ρ μ else .ok (.bl false) μ
def fOr (a b : Sem) : Sem := fun ρ μ => (a ρ μ).bind fun x μ => (R.ofP μ (blD x)).bind fun k μ => if k = true then .ok (.bl true) μ else b ρ μ
def fNot (a : SemT) : Sem := fun ρ μ => (a ρ μ).bind fun k μ => .ok (.bl (!k)) μ
def rB2 (F : Fx) (c : Cm) : R2 := fun x y H Q => ∃ (g : G) (a b : D) (k : Bool), g.fx = F ∧ g.H = H ∧ MemOk g ∧ Rep g a x ∧ Rep g b y ∧ c a b g.μ = some k ∧ Q (.bl k) H
theorem ofP_bind {α β : Type} {μ : Mem} {o : Option α} {k : α → Mem → R β} {E : XK} {g : G} {γ : Type} {RR : G → β → γ → Prop} {Q : γ → Hp → Prop} (h : Out RR E g ((R.ofP μ o).bind k) Q) : ∃ a, o = some a ∧ Out RR E g (k a μ) Q := by
  cases o with
  | none => exact h.elim
  | some a => exact ⟨a, rfl, h⟩
theorem ofP_map {g : G} {o : Option Bool} {E : XK} {Q : VK} (h : Out Rep E g (R.ofP g.μ (o.map D.bl)) Q) (m : MemOk g) : ∃ k, o = some k ∧ Q (.bl k) g.H := by
  cases o with
  | none => exact h.elim
  | some k => exact ⟨k, rfl, Out.here (a := D.bl k) h m rfl⟩
theorem ofP_t {g : G} {o : Option Bool} {E : XK} {Q : Bool → Hp → Prop} (h : Out RepB E g (R.ofP g.μ o) Q) (m : MemOk g) : ∃ k, o = some k ∧ Q k g.H := by
  cases o with
  | none => exact h.elim
  | some k => exact ⟨k, rfl, Out.here (a := k) h m rfl⟩
section
variable {X : Cx} {F : Fx} {W : WX} {a b c e : Expr} {fa fb fc fe : Sem} {ta tb : SemT} {f : SemA} {pos : Pos} {rest : List Expr}
theorem se_cmp {op : CmpOp} {cm : Cm} (ho : OpR X (compareOp op) (rB2 F cm)) (ha : SE X F W a fa) (hb : SE X F W b fb) (hm : behindInMarks op b = false := by first | exact nomark _ | rfl) : SE X F W (.Compare a [op] [b] pos) (fCmp cm fa fb) :=
  PE.imp (pe_cmpR ho ha hb hm) fun σ H Q h => tW.bind h fun g ρ x v e m w r o =>
    ⟨g, ρ, e, rfl, m, w, o.bind fun y g1 u m1 x1 r1 o1 => by
      obtain ⟨k, e2, q⟩ := ofP_map o1 m1
      exact ⟨g1, x, y, k, x1.fx.trans e, rfl, m1, r.mono x1, r1, e2, q⟩⟩
theorem st_cmp {op : CmpOp} {cm : Cm} (ho : OpR X (compareOp op) (rB2 F cm)) (ha : SE X F W a fa) (hb : SE X F W b fb) (hm : behindInMarks op b = false := by first | exact nomark _ | rfl) : ST X F W (.Compare a [op] [b] pos) (tCmp cm fa fb) :=
  PT.imp (pt_cmpR ho ha hb hm) fun σ H Q h => tW.bind h fun g ρ x v e m w r o =>
    ⟨g, ρ, e, rfl, m, w, o.bind fun y g1 u m1 x1 r1 o1 => by
      obtain ⟨k, e2, q⟩ := ofP_t o1 m1
      exact ⟨g1, x, y, k, x1.fx.trans e, rfl, m1, r.mono x1, r1, e2, k, rfl, q⟩⟩
theorem se_chain {op op' : CmpOp} {cm cm' : Cm} (ho : OpR X (compareOp op) (rB2 F cm)) (ho' : OpR X (compareOp op') (rB2 F cm')) (ha : SE X F W a fa) (hb : SE X F W b fb) (hc : SE X F W c fc) (hm : lastMarks [op, op'] [b, c] = false := by rfl) : SE X F W (.Compare a [op, op'] [b, c] pos) (fChain cm cm' fa fb fc) :=
  PE.imp (pe_chain ho ho' ha hb hc hm) fun σ H Q h => tW.bind h fun g ρ x v e m w r o =>
    ⟨g, ρ, e, rfl, m, w, o.bind fun y g1 u m1 x1 r1 o1 => by
      obtain ⟨k, e2, o2⟩ := ofP_bind o1
      refine ⟨g1, x, y, k, x1.fx.trans e, rfl, m1, r.mono x1, r1, e2, k, rfl, ?_⟩
      cases k with
      | true =>
        refine iteT ⟨g1, ρ, x1.fx.trans e, rfl, m1, w.mono x1, ?_⟩
        have o3 : Out Rep (fun c d H' => W c d σ H') g1 ((fc ρ g1.μ).bind fun z μ => R.ofP μ ((cm' y z μ).map D.bl)) Q := o2
        refine o3.bind fun z g2 w2 m2 x2 r2 o4 => ?_
        obtain ⟨k2, e3, q⟩ := ofP_map o4 m2
        exact ⟨g2, y, z, k2, x2.fx.trans (x1.fx.trans e), rfl, m2, r1.mono x2, r2, e3, q⟩
      | false => exact iteF (Out.here (a := D.bl false) o2 m1 rfl)⟩
theorem st_chain {op op' : CmpOp} {cm cm' : Cm} (ho : OpR X (compareOp op) (rB2 F cm)) (ho' : OpR X (compareOp op') (rB2 F cm')) (ha : SE X F W a fa) (hb : SE X F W b fb) (hc : SE X F W c fc) (hm : lastMarks [op, op'] [b, c] = false := by rfl) : ST X F W (.Compare a [op, op'] [b, c] pos) (tChain cm cm' fa fb fc) :=
  PT.imp (pt_chain ho ho' ha hb hc hm) fun σ H Q h => tW.bind h fun g ρ x v e m w r o =>
    ⟨g, ρ, e, rfl, m, w, o.bind fun y g1 u m1 x1 r1 o1 => by
      obtain ⟨k, e2, o2⟩ := ofP_bind o1
      refine ⟨g1, x, y, k, x1.fx.trans e, rfl, m1, r.mono x1, r1, e2, k, rfl, ?_⟩
      cases k with
      | true =>
        refine iteT ⟨g1, ρ, x1.fx.trans e, rfl, m1, w.mono x1, ?_⟩
        have o3 : Out RepB (fun c d H' => W c d σ H') g1 ((fc ρ g1.μ).bind fun z μ => R.ofP μ (cm' y z μ)) Q := o2
        refine o3.bind fun z g2 w2 m2 x2 r2 o4 => ?_
        obtain ⟨k2, e3, q⟩ := ofP_t o4 m2
        exact ⟨g2, y, z, k2, x2.fx.trans (x1.fx.trans e), rfl, m2, r1.mono x2, r2, e3, k2, rfl, q⟩
      | false => exact iteF ⟨false, rfl, Out.here (a := false) o2 m1 rfl⟩⟩
theorem st_tru (hF : F.K = X.K) (ha : SE X F W a fa) (he : ∀ whole, isTrue a X.env whole = (do let v ← whole; standAt a.pos; holding [v] (truthy v)) := by intro _; rfl) : ST X F W a (fTru fa) :=
  PT.imp (pt_truth ha he) fun σ H Q h => tW.bind h fun g ρ x v e m w r o => by
    obtain ⟨k, e2, q⟩ := ofP_t o m
    refine ⟨k, ?_, q⟩
    have : g.K = X.K := by rw [← hF, ← e]; rfl
    rw [← this]
    exact truD_ok m r e2
/-- .. whose test is its own -/
theorem st_not (ha : ST X F W a ta) : ST X F W (.UnaryOp .Not a pos) (tNot ta) :=
  PT.imp (pt_not ha) fun σ H Q h => tW.bind h fun g ρ x v e m w r o => by
    cases r
    exact o.here m rfl
def SW (X : Cx) (F : Fx) (W : WX) (e : Expr) (f : SemT) : Prop := PW X e (tT F W f)
theorem SW.st (h : SW X F W e ta) : ST X F W e ta := PW.pt h
theorem sw_and1 (ha : ST X F W a ta) : SW X F W (.BoolOp .And [a] pos) ta := pw_and1 ha
theorem sw_or1 (ha : ST X F W a ta) : SW X F W (.BoolOp .Or [a] pos) ta := pw_or1 ha
theorem sw_and (ha : ST X F W a ta) (hb : SW X F W (.BoolOp .And (b :: rest) pos) tb) : SW X F W (.BoolOp .And (a :: b :: rest) pos) (tAnd ta tb) :=
  PW.imp (pw_and ha hb) fun σ H Q h => tW.bind h fun g ρ v x e m w r o => by
    cases r
    cases v with
    | true => exact iteT ⟨g, ρ, e, rfl, m, w, o⟩
    | false => exact iteF (Out.here (a := false) o m rfl)
theorem sw_or (ha : ST X F W a ta) (hb : SW X F W (.BoolOp .Or (b :: rest) pos) tb) : SW X F W (.BoolOp .Or (a :: b :: rest) pos) (tOr ta tb) :=
  PW.imp (pw_or ha hb) fun σ H Q h => tW.bind h fun g ρ v x e m w r o => by
    cases r
    cases v with
    | true => exact iteT (Out.here (a := true) o m rfl)
    | false => exact iteF ⟨g, ρ, e, rfl, m, w, o⟩
theorem blD_some {g : G} {d : D} {v : V} {k : Bool} (r : Rep g d v) (h : blD d = some k) : v = .bl k := by
  cases d with
  | bl b => cases h; exact r
  | _ => simp [blD] at h
theorem se_one {op : BoolOp} (ha : SE X F W a fa) : SE X F W (.BoolOp op [a] pos) fa := pe_one ha
theorem se_and (ha : SE X F W a fa) (hb : SE X F W (.BoolOp .And (b :: rest) pos) fb) : SE X F W (.BoolOp .And (a :: b :: rest) pos) (fAnd fa fb) :=
  PE.imp (pe_and ha hb) fun σ H Q h => tW.bind h fun g ρ x v e m w r o => by
    obtain ⟨k, e2, o2⟩ := ofP_bind o
    refine ⟨k, blD_some r e2, ?_⟩
    cases k with
    | true => exact iteT ⟨g, ρ, e, rfl, m, w, o2⟩
    | false => exact iteF (Out.here (a := D.bl false) o2 m rfl)
theorem se_or (ha : SE X F W a fa) (hb : SE X F W (.BoolOp .Or (b :: rest) pos) fb) : SE X F W (.BoolOp .Or (a :: b :: rest) pos) (fOr fa fb) :=
  PE.imp (pe_or ha hb) fun σ H Q h => tW.bind h fun g ρ x v e m w r o => by
    obtain ⟨k, e2, o2⟩ := ofP_bind o
    refine ⟨k, blD_some r e2, ?_⟩
    cases k with
    | true => exact iteT (Out.here (a := D.bl true) o2 m rfl)
    | false => exact iteF ⟨g, ρ, e, rfl, m, w, o2⟩
theorem se_ifExp (hc : ST X F W c ta) (ha : SE X F W a fa) (hb : SE X F W b fb) : SE X F W (.IfExp c a b pos) (fIf ta fa fb) :=
  PE.imp (pe_ifExp hc ha hb) fun σ H Q h => tW.bind h fun g ρ v x e m w r o => by
    cases r
    cases v with
    | true => exact iteT ⟨g, ρ, e, rfl, m, w, o⟩
    | false => exact iteF ⟨g, ρ, e, rfl, m, w, o⟩
end
end Z

namespace Z
open PySem PySem.Spec PyProof.Rows L2

/-! ### arithmetic -/
def dAdd (x y : D) (μ : Mem) : R D := match x, y with
  | .int a, .int b => .ok (.int (a + b)) μ
  | .str a, .str b => if a.length + b.length ≤ sizeLine then .ok (.str (a ++ b)) μ else .bad
  | .tup a, .tup b => if a.isEmpty = false ∧ a.length + b.length ≤ sizeLine then .ok (.tup (a ++ b)) μ else .bad
  | x, y => match lstW μ x, lstW μ y with
    | some a, some b => if a.length + b.length ≤ sizeLine then .ok (.lst (a ++ b)) μ else .bad
    | _, _ => .bad
def dSub (x y : D) (μ : Mem) : R D := match x, y with
  | .int a, .int b => .ok (.int (a - b)) μ
  | _, _ => .bad
def dMul (x y : D) (μ : Mem) : R D := match x, y with
  | .int a, .int b => if a.natAbs.log2 + b.natAbs.log2 < 1000000 then .ok (.int (a * b)) μ else .bad
  | x, .int k => match lstW μ x with
    | some a => if -(2 ^ 63) ≤ k ∧ k < 2 ^ 63 ∧ a.length * k.toNat ≤ sizeLine then .ok (.lst (List.replicate k.toNat a).flatten) μ else .bad
    | none => .bad
  | _, _ => .bad
def dDiv (x y : D) (μ : Mem) : R D := match x, y with
  | .int a, .int b => if 0 < b ∧ b.natAbs.log2 < 9000 then .ok (.int (a / b)) μ else .bad
  | _, _ => .bad
def dMod (x y : D) (μ : Mem) : R D := match x, y with
  | .int a, .int b => if 0 < b then .ok (.int (a % b)) μ else .bad
  | _, _ => .bad
def dPow (x y : D) (μ : Mem) : R D := match x, y with
  | .int a, .int b => if 0 ≤ b ∧ b ≤ 1000000 ∧ a.natAbs < 2 ^ 64 then .ok (.int (a ^ b.toNat)) μ else .bad
  | _, _ => .bad
def dXor (x y : D) (μ : Mem) : R D := match x, y with
  | .int a, .int b => .ok (.int (Builtin.bitXor a b)) μ
  | _, _ => .bad
def dNeg (x : D) (μ : Mem) : R D := match x with
  | .int a => .ok (.int (-a)) μ
  | _ => .bad
theorem c_ok {α : Type} {a : α} {μ : Mem} : (R.ok a μ).calm := trivial
theorem c_bad {α : Type} : (R.bad : R α).calm := trivial
theorem c_ite {α : Type} {c : Prop} [Decidable c] {a b : R α} (ha : a.calm) (hb : b.calm) : (if c then a else b).calm := by split <;> assumption
theorem cm_add (x y : D) (μ : Mem) : (dAdd x y μ).calm := by cases x <;> cases y <;> dsimp only [dAdd] <;> (repeat' split) <;> trivial
theorem cm_sub (x y : D) (μ : Mem) : (dSub x y μ).calm := by cases x <;> cases y <;> dsimp only [dSub] <;> (repeat' split) <;> trivial
theorem cm_mul (x y : D) (μ : Mem) : (dMul x y μ).calm := by cases x <;> cases y <;> dsimp only [dMul] <;> (repeat' split) <;> trivial
theorem cm_div (x y : D) (μ : Mem) : (dDiv x y μ).calm := by cases x <;> cases y <;> dsimp only [dDiv] <;> (repeat' split) <;> trivial
theorem cm_mod (x y : D) (μ : Mem) : (dMod x y μ).calm := by cases x <;> cases y <;> dsimp only [dMod] <;> (repeat' split) <;> trivial
theorem cm_pow (x y : D) (μ : Mem) : (dPow x y μ).calm := by cases x <;> cases y <;> dsimp only [dPow] <;> (repeat' split) <;> trivial
theorem cm_xor (x y : D) (μ : Mem) : (dXor x y μ).calm := by cases x <;> cases y <;> dsimp only [dXor] <;> (repeat' split) <;> trivial
theorem cm_neg (x : D) (μ : Mem) : (dNeg x μ).calm := by unfold dNeg; repeat' split; all_goals trivial
theorem rEmpty {ds : List D} {g : G} {xs : List V} (r : RepL g ds xs) (h : ds.isEmpty = false) : xs ≠ [] := fun z => by
  subst z
  have := r.length
  cases ds <;> simp_all
theorem nil_of {g : G} {ds : List D} (r : RepL g ds []) : ds = [] := by
  have := r.length
  cases ds <;> simp_all
theorem flat_rep {g : G} {ds : List D} {xs : List V} (r : RepL g ds xs) : ∀ k : Nat, RepL g (List.replicate k ds).flatten (List.replicate k xs).flatten
  | 0 => RepL.nil
  | k + 1 => by
    rw [List.replicate_succ, List.replicate_succ, List.flatten_cons, List.flatten_cons]
    exact r.app (flat_rep r k)
/-- a new tree list -/
theorem out_lst {g : G} {E : XK} {ds : List D} {xs : List V} {Q : VK} (o : Out Rep E g (.ok (.lst ds) g.μ) Q) (m : MemOk g) (r : RepL g ds xs) (p : Addr) (hp : g.H p = none) : Q (.ref p) (upd g.H p (.lst xs)) :=
  o (g.put p (.lst xs)) (.ref p) rfl (m.put hp) (Ext.put hp (m.fresh hp).2.1) (put_lst m hp r)
theorem out_tup {g : G} {E : XK} {ds : List D} {xs : List V} {Q : VK} (o : Out Rep E g (.ok (.tup ds) g.μ) Q) (m : MemOk g) (r : RepL g ds xs) (p : Addr) (hp : g.H p = none) : Q (.ref p) (upd g.H p (.tup xs)) :=
  o (g.put p (.tup xs)) (.ref p) rfl (m.put hp) (Ext.put hp (m.fresh hp).2.1) (put_tup m hp r)
section
variable {X : Cx} {F : Fx}
theorem od_add (hF : F.K = X.K) : OpR X (binaryOp .Add) (rD2 F dAdd) := by
  intro pins s σ H x y v u Q I rx ry h
  obtain ⟨g, a, b, e, rfl, m, ra, rb, o⟩ := h
  have eK : g.K = X.K := by rw [← hF, ← e]; rfl
  unfold dAdd at o
  split at o
  · cases ra; cases rb
    exact op_add pins s σ g.H _ _ v u Q I rx ry ⟨_, _, rfl, rfl, o.here m rfl⟩
  · cases ra; cases rb
    split at o
    · exact op_add_str pins s σ g.H _ _ v u Q I rx ry ⟨_, _, rfl, rfl, by assumption, o.here m rfl⟩
    · exact o.elim
  · split at o
    · rename_i ds es hc
      obtain ⟨p, xs, rfl, q1, r1⟩ := ra
      obtain ⟨p2, ys, rfl, q2, r2⟩ := rb
      refine op_catT pins s σ g.H _ _ v u Q I rx ry ⟨p, p2, xs, ys, rfl, rfl, eK ▸ q1.sq, eK ▸ q2.sq, rEmpty r1 hc.1, by rw [← r1.length, ← r2.length]; exact hc.2, fun z => ?_, fun _ w hw => out_tup o m (r1.app r2) w hw⟩
      subst z
      have : es = [] := nil_of r2
      subst this
      rw [List.append_nil] at o
      exact o.here m ⟨p, xs, rfl, q1, r1⟩
    · exact o.elim
  · split at o
    · rename_i ds es h1 h2
      split at o
      · obtain ⟨p, xs, rfl, q1, r1⟩ := lstW_rep m ra h1
        obtain ⟨p2, ys, rfl, q2, r2⟩ := lstW_rep m rb h2
        exact op_cat pins s σ g.H _ _ v u Q I rx ry ⟨p, p2, xs, ys, rfl, rfl, q1, q2, by rw [← r1.length, ← r2.length]; assumption, fun w hw => out_lst o m (r1.app r2) w hw⟩
      · exact o.elim
    · exact o.elim
theorem od_sub : OpR X (binaryOp .Sub) (rD2 F dSub) := by
  intro pins s σ H x y v u Q I rx ry h
  obtain ⟨g, a, b, e, rfl, m, ra, rb, o⟩ := h
  unfold dSub at o
  split at o
  · cases ra; cases rb
    exact op_sub pins s σ g.H _ _ v u Q I rx ry ⟨_, _, rfl, rfl, o.here m rfl⟩
  · exact o.elim
theorem od_mul : OpR X (binaryOp .Mult) (rD2 F dMul) := by
  intro pins s σ H x y v u Q I rx ry h
  obtain ⟨g, a, b, e, rfl, m, ra, rb, o⟩ := h
  unfold dMul at o
  split at o
  · cases ra; cases rb
    split at o
    · exact op_mulW pins s σ g.H _ _ v u Q I rx ry ⟨_, _, rfl, rfl, by assumption, o.here m rfl⟩
    · exact o.elim
  · cases rb
    split at o
    · rename_i ds h1
      split at o
      · rename_i hc
        obtain ⟨p, xs, rfl, q1, r1⟩ := lstW_rep m ra h1
        exact op_rep pins s σ g.H _ _ v u Q I rx ry ⟨p, _, xs, rfl, rfl, q1, hc.1, hc.2.1, by rw [← r1.length]; exact hc.2.2, fun w hw => out_lst o m (flat_rep r1 _) w hw⟩
      · exact o.elim
    · exact o.elim
  · exact o.elim
theorem od_div : OpR X (binaryOp .FloorDiv) (rD2 F dDiv) := by
  intro pins s σ H x y v u Q I rx ry h
  obtain ⟨g, a, b, e, rfl, m, ra, rb, o⟩ := h
  unfold dDiv at o
  split at o
  · cases ra; cases rb
    split at o
    · exact op_fdivW pins s σ g.H _ _ v u Q I rx ry ⟨_, _, rfl, rfl, by assumption, o.here m rfl⟩
    · exact o.elim
  · exact o.elim
theorem od_mod : OpR X (binaryOp .Mod) (rD2 F dMod) := by
  intro pins s σ H x y v u Q I rx ry h
  obtain ⟨g, a, b, e, rfl, m, ra, rb, o⟩ := h
  unfold dMod at o
  split at o
  · cases ra; cases rb
    split at o
    · exact op_mod pins s σ g.H _ _ v u Q I rx ry ⟨_, _, rfl, rfl, by assumption, o.here m rfl⟩
    · exact o.elim
  · exact o.elim
theorem od_pow : OpR X (binaryOp .Pow) (rD2 F dPow) := by
  intro pins s σ H x y v u Q I rx ry h
  obtain ⟨g, a, b, e, rfl, m, ra, rb, o⟩ := h
  unfold dPow at o
  split at o
  · cases ra; cases rb
    split at o
    · exact op_pow pins s σ g.H _ _ v u Q I rx ry ⟨_, _, rfl, rfl, by assumption, o.here m rfl⟩
    · exact o.elim
  · exact o.elim
theorem od_xor : OpR X (binaryOp .BitXor) (rD2 F dXor) := by
  intro pins s σ H x y v u Q I rx ry h
  obtain ⟨g, a, b, e, rfl, m, ra, rb, o⟩ := h
  unfold dXor at o
  split at o
  · cases ra; cases rb
    exact op_xor pins s σ g.H _ _ v u Q I rx ry ⟨_, _, rfl, rfl, o.here m rfl⟩
  · exact o.elim
theorem od_neg : UnR X (unaryOp .USub) (rD1 F dNeg) := by
  intro pins s σ H x v Q I rx h
  obtain ⟨g, a, e, rfl, m, ra, o⟩ := h
  unfold dNeg at o
  split at o
  · cases ra
    exact un_neg pins s σ g.H _ v Q I rx ⟨_, rfl, o.here m rfl⟩
  · exact o.elim
end

/-! ### == of data -/
mutual
def D.py : D → PyData
  | .non => .none
  | .bl b => .bool b
  | .int i => .int i
  | .str x => .str x
  | .tup ds => .tuple (D.pys ds)
  | .lst ds => .list (D.pys ds)
  | .sq ds => .list (D.pys ds)
  | .dic _ _ => .none
  | .obj _ => .none
  | .exn _ _ _ => .none
def D.pys : List D → List PyData
  | [] => []
  | d :: ds => D.py d :: D.pys ds
end
/-! data without handles and dicts, at most so deep -/
mutual
def D.fit : Nat → D → Bool
  | _, .non => true
  | _, .bl _ => true
  | _, .int _ => true
  | _, .str _ => true
  | n + 1, .tup ds => D.fits n ds
  | n + 1, .lst ds => D.fits n ds
  | n + 1, .sq ds => D.fits n ds
  | _, _ => false
def D.fits : Nat → List D → Bool
  | _, [] => true
  | n, d :: ds => D.fit n d && D.fits n ds
end
theorem D.fits_all (n : Nat) : ∀ ds : List D, D.fits n ds = ds.all (D.fit n)
  | [] => by simp [D.fits]
  | d :: ds => by rw [D.fits, D.fits_all n ds, List.all_cons]
theorem D.pys_map : ∀ ds : List D, D.pys ds = ds.map D.py
  | [] => by simp [D.pys]
  | d :: ds => by rw [D.pys, D.pys_map ds, List.map_cons]
mutual
theorem fit_plain : ∀ (n : Nat) (d : D), D.fit n d = true → d.py.plain = true ∧ d.py.depth ≤ n
  | n, .non, _ => ⟨rfl, by simp [D.py, PyData.depth]⟩
  | n, .bl _, _ => ⟨rfl, by simp [D.py, PyData.depth]⟩
  | n, .int _, _ => ⟨rfl, by simp [D.py, PyData.depth]⟩
  | n, .str _, _ => ⟨rfl, by simp [D.py, PyData.depth]⟩
  | 0, .tup _, h => by simp [D.fit] at h
  | 0, .lst _, h => by simp [D.fit] at h
  | 0, .sq _, h => by simp [D.fit] at h
  | n + 1, .tup ds, h => by
    have := fits_plain n ds (by simpa [D.fit] using h)
    exact ⟨by simpa [D.py, PyData.plain] using this.1, by simp only [D.py, PyData.depth]; omega⟩
  | n + 1, .lst ds, h => by
    have := fits_plain n ds (by simpa [D.fit] using h)
    exact ⟨by simpa [D.py, PyData.plain] using this.1, by simp only [D.py, PyData.depth]; omega⟩
  | n + 1, .sq ds, h => by
    have := fits_plain n ds (by simpa [D.fit] using h)
    exact ⟨by simpa [D.py, PyData.plain] using this.1, by simp only [D.py, PyData.depth]; omega⟩
  | n, .dic _ _, h => by cases n <;> simp [D.fit] at h
  | n, .obj _, h => by cases n <;> simp [D.fit] at h
  | n, .exn _ _ _, h => by cases n <;> simp [D.fit] at h
theorem fits_plain : ∀ (n : Nat) (ds : List D), D.fits n ds = true → PyData.plainAll (D.pys ds) = true ∧ PyData.depthAll (D.pys ds) ≤ n
  | n, [], _ => ⟨rfl, by simp [D.pys, PyData.depthAll]⟩
  | n, d :: ds, h => by
    simp only [D.fits, Bool.and_eq_true] at h
    have a := fit_plain n d h.1
    have b := fits_plain n ds h.2
    refine ⟨by simp [D.pys, PyData.plainAll, a.1, b.1], ?_⟩
    simp only [D.pys, PyData.depthAll]
    have := a.2
    have := b.2
    omega
end
mutual
theorem fit_dp {g : G} : ∀ (n : Nat) (d : D) (v : V), D.fit n d = true → Rep g d v → Dp g.K g.H v d.py
  | n, .non, v, _, r => by cases r; exact .non
  | n, .bl b, v, _, r => by cases r; exact .bl b
  | n, .int i, v, _, r => by cases r; exact .int i
  | n, .str x, v, _, r => by cases r; exact .str x
  | 0, .tup _, _, h, _ => by simp [D.fit] at h
  | 0, .lst _, _, h, _ => by simp [D.fit] at h
  | 0, .sq _, _, h, _ => by simp [D.fit] at h
  | n + 1, .tup ds, v, h, r => by
    obtain ⟨a, xs, rfl, q, t⟩ := r
    exact .tup q.sq (fits_dp n ds xs (by simpa [D.fit] using h) t)
  | n + 1, .lst ds, v, h, r => by
    obtain ⟨a, xs, rfl, q, t⟩ := r
    exact .lst q.sq (fits_dp n ds xs (by simpa [D.fit] using h) t)
  | n + 1, .sq ds, v, h, r => by
    obtain ⟨a, xs, rfl, q, t⟩ := r
    exact .lst q.sq (fits_dp n ds xs (by simpa [D.fit] using h) t)
  | n, .dic _ _, _, h, _ => by cases n <;> simp [D.fit] at h
  | n, .obj _, _, h, _ => by cases n <;> simp [D.fit] at h
  | n, .exn _ _ _, _, h, _ => by cases n <;> simp [D.fit] at h
theorem fits_dp {g : G} : ∀ (n : Nat) (ds : List D) (vs : List V), D.fits n ds = true → RepL g ds vs → DpAll g.K g.H vs (D.pys ds)
  | n, [], _, _, r => by cases r; exact .nil
  | n, d :: ds, _, h, r => by
    obtain ⟨v, vs, rfl, r1, r2⟩ := r
    simp only [D.fits, Bool.and_eq_true] at h
    exact .cons (fit_dp n d v h.1 r1) (fits_dp n ds vs h.2 r2)
end
/-- a handle as the tree it is now -/
def resD (μ : Mem) (d : D) : D := match d with
  | .obj n => match lstW μ (.obj n) with
    | some ds => .lst ds
    | none => .obj n
  | d => d
theorem res_dp {g : G} (m : MemOk g) {d : D} {v : V} (h : D.fit 9 (resD g.μ d) = true) (r : Rep g d v) : Dp g.K g.H v (resD g.μ d).py := by
  cases d with
  | obj n =>
    cases e : lstW g.μ (.obj n) with
    | none => simp only [resD, e] at h; simp [D.fit] at h
    | some ds =>
      simp only [resD, e] at h ⊢
      obtain ⟨a, xs, rfl, q, t⟩ := lstW_rep m r e
      exact .lst (.inl (.inl q)) (fits_dp 8 ds xs (by simpa [D.fit] using h) t)
  | _ => exact fit_dp 9 _ v h r
def D.eqb (a b : D) : Bool := PyData.eqv a.py b.py
def dEq : Cm := fun x y μ => if D.fit 9 (resD μ x) = true ∧ D.fit 9 (resD μ y) = true then some (D.eqb (resD μ x) (resD μ y)) else none
def dNe : Cm := fun x y μ => (dEq x y μ).map not
def dLt : Cm := fun x y μ => match x, y with
  | .int a, .int b => some (decide (a < b))
  | .str a, .str b => some (decide (a.cps.toList < b.cps.toList))
  | _, _ => none
def dGt : Cm := fun x y μ => match x, y with
  | .int a, .int b => some (decide (b < a))
  | .str a, .str b => some (decide (b.cps.toList < a.cps.toList))
  | _, _ => none
def dLe : Cm := fun x y _ => match x, y with
  | .int a, .int b => some (decide (a ≤ b))
  | _, _ => none
def dGe : Cm := fun x y _ => match x, y with
  | .int a, .int b => some (decide (b ≤ a))
  | _, _ => none
def isNon : D → Bool
  | .non => true
  | _ => false
/-- is None; is True (of truth values) -/
def dIs : Cm := fun x y _ => match y with
  | .non => some (isNon x)
  | .bl b => (blD x).map fun a => decide (a = b)
  | _ => none
def dIsNot : Cm := fun x y μ => (dIs x y μ).map not
def keyD : D → Option Key
  | .int i => some (.inl i)
  | .str x => some (.inr x)
  | _ => none
def strIn (x y : Str) : Bool := match x.cps.toList with
  | [c] => decide (c ∈ y.cps.toList)
  | _ => !(Builtin.Str.occurrences y x 0 y.length 1).isEmpty
def dIn : Cm := fun x y μ => match x, y with
  | .str a, .str b => some (strIn a b)
  | x, .tup ds => if D.fits 8 ds = true ∧ D.fit 9 (resD μ x) = true then some (ds.any fun z => D.eqb z (resD μ x)) else none
  | x, y => match lstD μ y with
    | some ds => if D.fits 8 ds = true ∧ D.fit 9 (resD μ x) = true then some (ds.any fun z => D.eqb z (resD μ x)) else none
    | none => match dicD μ y, keyD x with
      | some (ks, _), some k => some (ks.any fun j => decide (j = k))
      | _, _ => none
def dNotIn : Cm := fun x y μ => (dIn x y μ).map not
theorem map_not {o : Option Bool} {k : Bool} (h : o.map not = some k) : ∃ j, o = some j ∧ k = !j := by
  cases o with
  | none => cases h
  | some j => exact ⟨j, rfl, (Option.some.inj h).symm⟩
theorem keyD_rep {g : G} {d : D} {v : V} {k : Key} (r : Rep g d v) (h : keyD d = some k) : v = kV k := by
  cases d with
  | int i => cases h; exact r
  | str x => cases h; exact r
  | _ => simp [keyD] at h
theorem str_one {a : Str} {c : Nat} (h : a.cps.toList = [c]) : a = ⟨#[c]⟩ := Str.ext' (Array.toList_inj.mp (by rw [h]))
theorem strIn_cases (x y : Str) : (∃ c, x = ⟨#[c]⟩ ∧ strIn x y = decide (c ∈ y.cps.toList)) ∨ strIn x y = !(Builtin.Str.occurrences y x 0 y.length 1).isEmpty := by
  unfold strIn
  split
  · rename_i c h
    exact .inl ⟨c, str_one h, rfl⟩
  · exact .inr rfl
theorem zip_any (ks : List Key) (k : Key) : ∀ (xs : List V), ks.length = xs.length → (valV (ks.zip xs) k).isSome = ks.any fun j => decide (j = k) := by
  intro xs h
  rw [← valV_any]
  induction ks generalizing xs with
  | nil => rfl
  | cons a r ih =>
    cases xs with
    | nil => simp at h
    | cons x t =>
      simp only [List.zip_cons_cons, List.any_cons]
      rw [ih t (by simpa using h)]
section
variable {X : Cx} {F : Fx}
theorem fxK {g : G} (e : g.fx = F) (hF : F.K = X.K) : g.K = X.K := by rw [← hF, ← e]; rfl
theorem oc_eq (hF : F.K = X.K) (hu : X.A.units + 70 < cLine) : OpR X (compareOp .Eq) (rB2 F dEq) := by
  intro pins s σ H x y v u Q I rx ry h
  obtain ⟨g, a, b, k, e, rfl, m, ra, rb, ek, q⟩ := h
  have eK := fxK e hF
  unfold dEq at ek
  split at ek
  · rename_i hc
    cases ek
    obtain ⟨as, r1⟩ := Dp.reads I _ x v (eK ▸ res_dp m hc.1 ra) rx
    obtain ⟨bs, r2⟩ := Dp.reads I _ y u (eK ▸ res_dp m hc.2 rb) ry
    have p1 := fit_plain 9 _ hc.1
    have p2 := fit_plain 9 _ hc.2
    exact SeqAt.eq_plain r1 r2 p1.1 p2.1 (by have := p1.2; omega) ⟨.bl _, g.H, I, rfl, q⟩
  · cases ek
theorem oc_ne (hF : F.K = X.K) (hu : X.A.units + 70 < cLine) : OpR X (compareOp .NotEq) (rB2 F dNe) := by
  intro pins s σ H x y v u Q I rx ry h
  obtain ⟨g, a, b, k, e, rfl, m, ra, rb, ek, q⟩ := h
  have eK := fxK e hF
  obtain ⟨j, ek1, rfl⟩ := map_not ek
  unfold dEq at ek1
  split at ek1
  · rename_i hc
    cases ek1
    obtain ⟨as, r1⟩ := Dp.reads I _ x v (eK ▸ res_dp m hc.1 ra) rx
    obtain ⟨bs, r2⟩ := Dp.reads I _ y u (eK ▸ res_dp m hc.2 rb) ry
    have p1 := fit_plain 9 _ hc.1
    have p2 := fit_plain 9 _ hc.2
    exact SeqAt.ne_plain r1 r2 p1.1 p2.1 (by have := p1.2; omega) ⟨.bl _, g.H, I, rfl, q⟩
  · cases ek1
theorem oc_lt : OpR X (compareOp .Lt) (rB2 F dLt) := by
  intro pins s σ H x y v u Q I rx ry h
  obtain ⟨g, a, b, k, e, rfl, m, ra, rb, ek, q⟩ := h
  unfold dLt at ek
  split at ek
  · cases ra; cases rb; cases ek
    exact op_lt pins s σ g.H _ _ v u Q I rx ry ⟨_, _, rfl, rfl, q⟩
  · cases ra; cases rb; cases ek
    exact op_lt_str pins s σ g.H _ _ v u Q I rx ry ⟨_, _, rfl, rfl, q⟩
  · cases ek
theorem oc_gt : OpR X (compareOp .Gt) (rB2 F dGt) := by
  intro pins s σ H x y v u Q I rx ry h
  obtain ⟨g, a, b, k, e, rfl, m, ra, rb, ek, q⟩ := h
  unfold dGt at ek
  split at ek
  · cases ra; cases rb; cases ek
    exact op_gt pins s σ g.H _ _ v u Q I rx ry ⟨_, _, rfl, rfl, q⟩
  · cases ra; cases rb; cases ek
    exact op_gt_str pins s σ g.H _ _ v u Q I rx ry ⟨_, _, rfl, rfl, q⟩
  · cases ek
theorem oc_le : OpR X (compareOp .LtE) (rB2 F dLe) := by
  intro pins s σ H x y v u Q I rx ry h
  obtain ⟨g, a, b, k, e, rfl, m, ra, rb, ek, q⟩ := h
  unfold dLe at ek
  split at ek
  · cases ra; cases rb; cases ek
    exact op_le pins s σ g.H _ _ v u Q I rx ry ⟨_, _, rfl, rfl, q⟩
  · cases ek
theorem oc_ge : OpR X (compareOp .GtE) (rB2 F dGe) := by
  intro pins s σ H x y v u Q I rx ry h
  obtain ⟨g, a, b, k, e, rfl, m, ra, rb, ek, q⟩ := h
  unfold dGe at ek
  split at ek
  · cases ra; cases rb; cases ek
    exact op_ge pins s σ g.H _ _ v u Q I rx ry ⟨_, _, rfl, rfl, q⟩
  · cases ek
theorem isNon_rep {g : G} {d : D} {v : V} (r : Rep g d v) : decide (v = .non) = isNon d := by
  cases d with
  | non => cases r; rfl
  | bl _ => cases r; rfl
  | int _ => cases r; rfl
  | str _ => cases r; rfl
  | tup _ => obtain ⟨a, xs, rfl, _⟩ := r; rfl
  | lst _ => obtain ⟨a, xs, rfl, _⟩ := r; rfl
  | sq _ => obtain ⟨a, xs, rfl, _⟩ := r; rfl
  | dic _ _ => obtain ⟨a, xs, rfl, _⟩ := r; rfl
  | obj _ => obtain ⟨a, _, rfl⟩ := r; rfl
  | exn _ _ _ => obtain ⟨a, _, _, rfl, _⟩ := r; rfl
theorem oc_is : OpR X (compareOp .Is) (rB2 F dIs) := by
  intro pins s σ H x y v u Q I rx ry h
  obtain ⟨g, a, b, k, e, rfl, m, ra, rb, ek, q⟩ := h
  unfold dIs at ek
  split at ek
  · cases rb; cases ek
    exact op_isN pins s σ g.H _ _ v u Q I rx ry ⟨rfl, by rw [isNon_rep ra]; exact q⟩
  · cases rb
    cases e2 : blD a with
    | none => rw [e2] at ek; cases ek
    | some c =>
      rw [e2] at ek; cases ek
      cases blD_some ra e2
      exact op_isBl pins s σ g.H _ _ v u Q I rx ry ⟨_, _, rfl, rfl, q⟩
  · cases ek
theorem oc_isNot : OpR X (compareOp .IsNot) (rB2 F dIsNot) := by
  intro pins s σ H x y v u Q I rx ry h
  obtain ⟨g, a, b, k, e, rfl, m, ra, rb, ek, q⟩ := h
  obtain ⟨j, ek1, rfl⟩ := map_not ek
  unfold dIs at ek1
  split at ek1
  · cases rb; cases ek1
    exact op_notN pins s σ g.H _ _ v u Q I rx ry ⟨rfl, by rw [isNon_rep ra]; exact q⟩
  · cases rb
    cases e2 : blD a with
    | none => rw [e2] at ek1; cases ek1
    | some c =>
      rw [e2] at ek1; cases ek1
      cases blD_some ra e2
      exact op_notBl pins s σ g.H _ _ v u Q I rx ry ⟨_, _, rfl, rfl, q⟩
  · cases ek1
theorem pys_any (ds : List D) (z : D) : ((D.pys ds).any fun y => PyData.eqv y z.py) = ds.any fun y => D.eqb y z := by
  rw [D.pys_map, List.any_map]; rfl
theorem in_seq (hF : F.K = X.K) (hu : X.A.units + 70 < cLine) {pins : List (Addr × Obj)} {s : Shared} {σ : L2.St} {x y : V} {v u : Value} {g : G} {a : D} {ds : List D} {p : Addr} {xs : List V} {Q : VK} (I : Inv X pins σ g.H s) (rx : RelV x v) (ry : RelV y u) (e : g.fx = F) (m : MemOk g) (ra : Rep g a x)
    (ey : y = .ref p) (t : RepL g ds xs) (hc : D.fits 8 ds = true ∧ D.fit 9 (resD g.μ a) = true) (hs : SqL X.K g.H p xs ∨ SqT X.K g.H p xs) (neg : Bool) (q : Q (.bl (if neg then !(ds.any fun z => D.eqb z (resD g.μ a)) else ds.any fun z => D.eqb z (resD g.μ a))) g.H) :
    wpAny (model X.prog X.w) X.A (compareOp (if neg then .NotIn else .In) v u) (EP X pins σ Q) X.xe s := by
  subst ey
  have eK := fxK e hF
  obtain ⟨as, r1⟩ := Dp.reads I _ x v (eK ▸ res_dp m hc.2 ra) rx
  have p1 := fit_plain 9 _ hc.2
  have p2 := fits_plain 8 ds hc.1
  have dd : DpAll X.K g.H xs (D.pys ds) := eK ▸ fits_dp 8 ds xs hc.1 t
  rcases hs with hs | hs
  · obtain ⟨bs, r2⟩ := Dp.reads I (.list (D.pys ds)) (.ref p) u (.lst hs dd) ry
    cases neg with
    | false => exact SeqAt.in_list_data r2 r1 p2.1 p1.1 (by have := p1.2; omega) ⟨.bl _, g.H, I, rfl, by rw [pys_any]; exact q⟩
    | true => exact SeqAt.notIn_list_data r2 r1 p2.1 p1.1 (by have := p1.2; omega) ⟨.bl _, g.H, I, rfl, by rw [pys_any]; exact q⟩
  · obtain ⟨bs, r2⟩ := Dp.reads I (.tuple (D.pys ds)) (.ref p) u (.tup hs dd) ry
    cases neg with
    | false => exact SeqAt.in_tuple_data r2 r1 p2.1 p1.1 (by have := p1.2; omega) ⟨.bl _, g.H, I, rfl, by rw [pys_any]; exact q⟩
    | true => exact SeqAt.notIn_tuple_data r2 r1 p2.1 p1.1 (by have := p1.2; omega) ⟨.bl _, g.H, I, rfl, by rw [pys_any]; exact q⟩
theorem in_any (hF : F.K = X.K) (hu : X.A.units + 70 < cLine) (neg : Bool) {pins : List (Addr × Obj)} {s : Shared} {σ : L2.St} {x y : V} {v u : Value} {g : G} {a b : D} {k : Bool} {Q : VK} (I : Inv X pins σ g.H s) (rx : RelV x v) (ry : RelV y u) (e : g.fx = F) (m : MemOk g) (ra : Rep g a x) (rb : Rep g b y)
    (ek : dIn a b g.μ = some k) (q : Q (.bl (if neg then !k else k)) g.H) : wpAny (model X.prog X.w) X.A (compareOp (if neg then .NotIn else .In) v u) (EP X pins σ Q) X.xe s := by
  have eK := fxK e hF
  unfold dIn at ek
  split at ek
  · rename_i c z
    cases ra; cases rb
    cases ek
    rcases strIn_cases c z with ⟨c1, hc, e3⟩ | e3
    · subst hc
      rw [e3] at q
      cases neg with
      | false => exact op_in_sign pins s σ g.H _ _ v u Q I rx ry ⟨_, _, rfl, rfl, q⟩
      | true => exact op_notIn_sign pins s σ g.H _ _ v u Q I rx ry ⟨_, _, rfl, rfl, q⟩
    · rw [e3] at q
      cases neg with
      | false => exact op_in_str pins s σ g.H _ _ v u Q I rx ry ⟨_, _, rfl, rfl, q⟩
      | true => exact L2.op_notin_str pins s σ g.H _ _ v u Q I rx ry ⟨_, _, rfl, rfl, q⟩
  · split at ek
    · rename_i hc
      cases ek
      obtain ⟨p, xs, rfl, q1, t⟩ := rb
      exact in_seq hF hu I rx ry e m ra rfl t hc (.inr (eK ▸ q1.sq)) neg q
    · cases ek
  · split at ek
    · rename_i ds hl
      split at ek
      · rename_i hc
        cases ek
        obtain ⟨p, xs, rfl, q1, t⟩ := lstD_rep m rb hl
        exact in_seq hF hu I rx ry e m ra rfl t hc (.inl (eK ▸ q1)) neg q
      · cases ek
    · split at ek
      · rename_i ks vs k1 h1 h2
        cases ek
        obtain ⟨p, xs, rfl, q1, l, t⟩ := dicD_rep m rb h1
        have e3 := keyD_rep ra h2
        subst e3
        obtain rfl : u = Value.ref p := ry
        have dg : DGet g.H p (kV k1) (valV (ks.zip xs) k1) := .inl ⟨_, _, q1, rfl, rfl⟩
        cases neg with
        | false => exact d_in (by omega) I dg rx fun s3 I3 => ⟨.bl _, g.H, I3, rfl, by rw [zip_any ks k1 xs l]; exact q⟩
        | true => exact d_notIn (by omega) I dg rx fun s3 I3 => ⟨.bl _, g.H, I3, rfl, by rw [zip_any ks k1 xs l]; exact q⟩
      · cases ek
theorem oc_in (hF : F.K = X.K) (hu : X.A.units + 70 < cLine) : OpR X (compareOp .In) (rB2 F dIn) := by
  intro pins s σ H x y v u Q I rx ry h
  obtain ⟨g, a, b, k, e, rfl, m, ra, rb, ek, q⟩ := h
  exact in_any hF hu false I rx ry e m ra rb ek q
theorem oc_notIn (hF : F.K = X.K) (hu : X.A.units + 70 < cLine) : OpR X (compareOp .NotIn) (rB2 F dNotIn) := by
  intro pins s σ H x y v u Q I rx ry h
  obtain ⟨g, a, b, k, e, rfl, m, ra, rb, ek, q⟩ := h
  obtain ⟨j, ek1, rfl⟩ := map_not ek
  exact in_any hF hu true I rx ry e m ra rb ek1 q
end
end Z

namespace Z
open PySem PySem.Spec PyProof.Rows L2

inductive RS where
  | next (ρ : Env) (μ : Mem) | ret (d : D) (μ : Mem) | brk (ρ : Env) (μ : Mem) | cont (ρ : Env) (μ : Mem) | exc (e : Ex) (ρ : Env) (μ : Mem) | bad
abbrev SemS := Env → Mem → RS
def R.s {α : Type} (r : R α) (ρ : Env) (k : α → Mem → RS) : RS := match r with
  | .ok a μ => k a μ
  | .exc e μ => .exc e ρ μ
  | .bad => .bad
def OutS (D : Ends) (W : WX) (g : G) (r : RS) : Prop := match r with
  | .next ρ μ => ∀ (g' : G) (σ' : L2.St), g'.μ = μ → MemOk g' → Ext g g' → EnvOk g' ρ σ' → D.nx σ' g'.H
  | .ret d μ => ∀ (g' : G) (v : V), g'.μ = μ → MemOk g' → Ext g g' → Rep g' d v → D.rt v g'.H
  | .brk ρ μ => ∀ (g' : G) (σ' : L2.St), g'.μ = μ → MemOk g' → Ext g g' → EnvOk g' ρ σ' → D.bk σ' g'.H
  | .cont ρ μ => ∀ (g' : G) (σ' : L2.St), g'.μ = μ → MemOk g' → Ext g g' → EnvOk g' ρ σ' → D.ct σ' g'.H
  | .exc e ρ μ => ∀ (g' : G) (σ' : L2.St) (C : Value) (dd : Option Addr), g'.μ = μ → MemOk g' → Ext g g' → EnvOk g' ρ σ' → ExRep g' e C dd → W C dd σ' g'.H
  | .bad => False
theorem OutS.from {D : Ends} {W : WX} {g g1 : G} {r : RS} (h : OutS D W g r) (x : Ext g g1) : OutS D W g1 r := by
  cases r with
  | next ρ μ => exact fun g' σ' e m y v => h g' σ' e m (x.trans y) v
  | ret d μ => exact fun g' v e m y w => h g' v e m (x.trans y) w
  | brk ρ μ => exact fun g' σ' e m y v => h g' σ' e m (x.trans y) v
  | cont ρ μ => exact fun g' σ' e m y v => h g' σ' e m (x.trans y) v
  | exc e ρ μ => exact fun g' σ' C dd e' m y v w => h g' σ' C dd e' m (x.trans y) v w
  | bad => exact h
def tS (F : Fx) (W : WX) (f : SemS) : TS := fun D σ H => ∃ (g : G) (ρ : Env), g.fx = F ∧ g.H = H ∧ MemOk g ∧ EnvOk g ρ σ ∧ OutS D W g (f ρ g.μ)
def SS (X : Cx) (F : Fx) (W : WX) (st : Stmt) (f : SemS) : Prop := PS X st (tS F W f)
def SSs (X : Cx) (F : Fx) (W : WX) (st : List Stmt) (f : SemS) : Prop := PSs X st (tS F W f)
theorem PS.imp {X : Cx} {st : Stmt} {t t' : TS} (h : PS X st t) (k : ∀ D σ H, t' D σ H → t D σ H) : PS X st t' := ⟨fun pins s σ H D I w => h.run pins s σ H D I (k D σ H w)⟩
theorem PSs.imp {X : Cx} {st : List Stmt} {t t' : TS} (h : PSs X st t) (k : ∀ D σ H, t' D σ H → t D σ H) : PSs X st t' := ⟨fun pins s σ H D I w => h.run pins s σ H D I (k D σ H w)⟩
/-- an expression, then on -/
theorem OutS.ex {α β : Type} {RR : G → α → β → Prop} {D : Ends} {W : WX} {g : G} {ρ : Env} {σ : L2.St} {r : R α} {k : α → Mem → RS} {Q : β → Hp → Prop} (h : OutS D W g (r.s ρ k)) (v : EnvOk g ρ σ)
    (hk : ∀ (a : α) (g1 : G) (b : β), MemOk g1 → Ext g g1 → RR g1 a b → OutS D W g1 (k a g1.μ) → Q b g1.H) : Out RR (fun c d H' => W c d σ H') g r Q := by
  cases r with
  | ok a μ =>
    intro g1 b e m x rr
    subst e
    exact hk a g1 b m x rr (OutS.from (r := k a g1.μ) h x)
  | exc e μ => exact fun g' C dd e' m x w => h g' σ C dd e' m x (v.mono x) w
  | bad => exact h
theorem OutS.here {D : Ends} {W : WX} {g : G} {ρ : Env} {σ : L2.St} (h : OutS D W g (.next ρ g.μ)) (m : MemOk g) (v : EnvOk g ρ σ) : D.nx σ g.H := h g σ rfl m (Ext.refl g) v
def RS.then (r : RS) (k : SemS) : RS := match r with
  | .next ρ μ => k ρ μ
  | r => r
def sSeq (a b : SemS) : SemS := fun ρ μ => (a ρ μ).then b
def sNext : SemS := fun ρ μ => .next ρ μ
def sBrk : SemS := fun ρ μ => .brk ρ μ
def sCont : SemS := fun ρ μ => .cont ρ μ
def sSet (i : Nat) (f : Sem) : SemS := fun ρ μ => (f ρ μ).s ρ fun d μ => .next (ρ.set i (some d)) μ
def sDrop (f : Sem) : SemS := fun ρ μ => (f ρ μ).s ρ fun _ μ => .next ρ μ
def sRet (f : Sem) : SemS := fun ρ μ => (f ρ μ).s ρ fun d μ => .ret d μ
def sRetN : SemS := fun _ μ => .ret .non μ
def sIf (t : SemT) (a b : SemS) : SemS := fun ρ μ => (t ρ μ).s ρ fun k μ => if k = true then a ρ μ else b ρ μ
section
variable {X : Cx} {F : Fx} {W : WX} {st : Stmt} {sts a b : List Stmt} {fa fb : SemS} {f : Sem} {t : SemT} {e c : Expr} {pos : Pos}
theorem sss_nil : SSs X F W [] sNext := PSs.imp pss_nil fun D σ H ⟨g, ρ, e1, e2, m, v, o⟩ => by subst e2; exact o.here m v
theorem OutS.seq {D : Ends} {g : G} {r : RS} {k : SemS} (h : OutS D W g (r.then k)) (eF : g.fx = F) : OutS { D with nx := tS F W k D } W g r := by
  cases r with
  | next ρ μ =>
    intro g1 σ1 e m x v
    subst e
    exact ⟨g1, ρ, x.fx.trans eF, rfl, m, v, OutS.from (r := k ρ g1.μ) h x⟩
  | _ => exact h
theorem sss_cons (h1 : SS X F W st fa) (h2 : SSs X F W sts fb) : SSs X F W (st :: sts) (sSeq fa fb) :=
  PSs.imp (pss_cons h1 h2) fun D σ H ⟨g, ρ, e1, e2, m, v, o⟩ => ⟨g, ρ, e1, e2, m, v, o.seq e1⟩
theorem sss_one (h1 : SS X F W st fa) : SSs X F W [st] fa := pss_one h1
theorem ss_pass : SS X F W (.Pass pos) sNext := PS.imp ps_pass fun D σ H ⟨g, ρ, e1, e2, m, v, o⟩ => by subst e2; exact o.here m v
theorem ss_brk : SS X F W (.Break pos) sBrk := PS.imp ps_break fun D σ H ⟨g, ρ, e1, e2, m, v, o⟩ => by subst e2; exact o g σ rfl m (Ext.refl g) v
theorem ss_cont : SS X F W (.Continue pos) sCont := PS.imp ps_continue fun D σ H ⟨g, ρ, e1, e2, m, v, o⟩ => by subst e2; exact o g σ rfl m (Ext.refl g) v
theorem ss_drop (h : SE X F W e f) (hs : swapsWith e none pos.line X.env = pure false := by rfl) : SS X F W (.Expr e pos) (sDrop f) :=
  PS.imp (ps_expr h hs) fun D σ H ⟨g, ρ, e1, e2, m, v, o⟩ => ⟨g, ρ, e1, e2, m, v, o.ex v fun d g1 w m1 x1 r1 o1 => o1.here m1 (v.mono x1)⟩
theorem ss_ret (h : SE X F W e f) : SS X F W (.Return (some e) pos) (sRet f) :=
  PS.imp (ps_ret h) fun D σ H ⟨g, ρ, e1, e2, m, v, o⟩ => ⟨g, ρ, e1, e2, m, v, o.ex v fun d g1 w m1 x1 r1 o1 => o1 g1 w rfl m1 (Ext.refl g1) r1⟩
theorem ss_retN : SS X F W (.Return none pos) sRetN := PS.imp ps_retN fun D σ H ⟨g, ρ, e1, e2, m, v, o⟩ => by subst e2; exact o g .non rfl m (Ext.refl g) rfl
theorem ss_if (hc : ST X F W c t) (ha : SSs X F W a fa) (hb : SSs X F W b fb) : SS X F W (.If c a b pos) (sIf t fa fb) :=
  PS.imp (ps_if hc ha hb) fun D σ H ⟨g, ρ, e1, e2, m, v, o⟩ => ⟨g, ρ, e1, e2, m, v, o.ex v fun k g1 w m1 x1 r1 o1 => by
    cases r1
    cases k with
    | true => exact iteT ⟨g1, ρ, x1.fx.trans e1, rfl, m1, v.mono x1, o1⟩
    | false => exact iteF ⟨g1, ρ, x1.fx.trans e1, rfl, m1, v.mono x1, o1⟩⟩
theorem ss_set (i : Nat) {x : Str} {pos' : Pos} (hN : X.N.Nodup) (h : SE X F W e f) (hi : X.N[i]? = some x := by rfl) (hx : Loc X.env.scope x := by first | exact .inl rfl | exact .inr rfl) (hs : swapsWith e (some (.Name x pos')) pos.line X.env = pure false := by rfl)
    (hf : X.fn x = true ∨ X.env.scope.names.lookup x = some .local := by first | exact .inl rfl | exact .inr rfl | assumption) : SS X F W (.Assign [.Name x pos'] e pos) (sSet i f) :=
  PS.imp (ps_set hN hi hx h hs hf) fun D σ H ⟨g, ρ, e1, e2, m, v, o⟩ => ⟨g, ρ, e1, e2, m, v, o.ex v fun d g1 w m1 x1 r1 o1 => o1.here m1 ((v.mono x1).set i r1)⟩
end

/-! ### targets -/
abbrev Tgt := D → Env → Option Env
def gD (F : Fx) (a : Tgt) : TG := fun v σ H Q => ∃ (g : G) (ρ ρ' : Env) (d : D), g.fx = F ∧ g.H = H ∧ MemOk g ∧ EnvOk g ρ σ ∧ Rep g d v ∧ a d ρ = some ρ' ∧ ∀ σ', EnvOk g ρ' σ' → Q σ' H
def SG (X : Cx) (F : Fx) (tg : Expr) (a : Tgt) : Prop := PG X tg (gD F a)
theorem PG.imp {X : Cx} {tg : Expr} {t t' : TG} (h : PG X tg t) (k : ∀ v σ H Q, t' v σ H Q → t v σ H Q) : PG X tg t' := ⟨fun pins s σ H v u Q I r w => h.run pins s σ H v u Q I r (k v σ H Q w)⟩
def aNm (i : Nat) : Tgt := fun d ρ => some (ρ.set i (some d))
def setD : List Nat → List D → Env → Option Env
  | [], [], ρ => some ρ
  | i :: is, d :: ds, ρ => setD is ds (ρ.set i (some d))
  | _, _, _ => none
def aTup (is : List Nat) : Tgt := fun d ρ => match d with
  | .tup ds => setD is ds ρ
  | _ => none
def aLst (is : List Nat) : Tgt := fun d ρ => match d with
  | .lst ds => setD is ds ρ
  | _ => none
def gNs : List Nat → TGs
  | [] => gNil
  | i :: is => gCons (gName i) (gNs is)
theorem setD_len : ∀ {is : List Nat} {ds : List D} {ρ ρ' : Env}, setD is ds ρ = some ρ' → ds.length = is.length
  | [], [], _, _, _ => rfl
  | _ :: is, _ :: ds, _, _, h => by simp [setD_len (is := is) (ds := ds) h]
  | [], _ :: _, _, _, h => by simp [setD] at h
  | _ :: _, [], _, _, h => by simp [setD] at h
theorem gNs_ok {g : G} {Q : L2.St → Hp → Prop} {ρ' : Env} : ∀ {is : List Nat} {ds : List D} {xs : List V} {ρ : Env} {σ : L2.St}, RepL g ds xs → EnvOk g ρ σ → setD is ds ρ = some ρ' → (∀ σ', EnvOk g ρ' σ' → Q σ' g.H) → gNs is xs σ g.H Q
  | [], [], _, _, σ, r, v, h, q => by cases r; cases h; exact ⟨rfl, q σ v⟩
  | i :: is, d :: ds, _, ρ, σ, r, v, h, q => by
    obtain ⟨w, vs, rfl, r1, r2⟩ := r
    exact ⟨w, vs, rfl, gNs_ok r2 (v.set i r1) h q⟩
  | [], _ :: _, _, _, _, _, _, h, _ => by simp [setD] at h
  | _ :: _, [], _, _, _, _, _, h, _ => by simp [setD] at h
section
variable {X : Cx} {F : Fx} {W : WX} {e : Expr} {f : Sem} {pos : Pos} {es : List Expr}
theorem sg_nm (i : Nat) {x : Str} (hN : X.N.Nodup) (hi : X.N[i]? = some x := by rfl) (hx : Loc X.env.scope x := by first | exact .inl rfl | exact .inr rfl) (hf : X.fn x = true ∨ X.env.scope.names.lookup x = some .local := by first | exact .inl rfl | exact .inr rfl | assumption) : SG X F (.Name x pos) (aNm i) :=
  PG.imp (pg_name hN hi hx hf) fun v σ H Q ⟨g, ρ, ρ', d, e1, e2, m, w, r, ea, q⟩ => by cases ea; exact q _ (w.set i r)
def SGs (X : Cx) (es : List Expr) (is : List Nat) : Prop := PGs X es (gNs is)
theorem sgs_nil : SGs X [] [] := pgs_nil
theorem sgs_cons (i : Nat) {x : Str} {is : List Nat} (hN : X.N.Nodup) (r : SGs X es is) (hi : X.N[i]? = some x := by rfl) (hx : Loc X.env.scope x := by first | exact .inl rfl | exact .inr rfl) (hf : X.fn x = true ∨ X.env.scope.names.lookup x = some .local := by first | exact .inl rfl | exact .inr rfl | assumption)
    (hs : (assignEach (.Name x pos :: es) X.env).map (·.2) = assign (.Name x pos) X.env :: (assignEach es X.env).map (·.2) := by rfl) : SGs X (.Name x pos :: es) (i :: is) := pgs_cons (pg_name hN hi hx hf) r hs
theorem sg_tup {is : List Nat} {k : Nat} (hF : F.K = X.K) (hc : X.calm = true) (h : SGs X es is) (hn : (assignEach es X.env).length = is.length := by rfl) (hst : (assignEach es X.env).findIdx? (·.1) = none := by rfl) : SG X F (.Tuple es k pos) (aTup is) :=
  PG.imp (pg_tup hc h hn hst) fun v σ H Q ⟨g, ρ, ρ', d, e1, e2, m, w, r, ea, q⟩ => by
    subst e2
    cases d with
    | tup ds =>
      obtain ⟨a, xs, rfl, q1, t⟩ := r
      have eK : g.K = X.K := by rw [← hF, ← e1]; rfl
      exact ⟨a, xs, rfl, eK ▸ q1.sq, by rw [← t.length]; exact setD_len ea, gNs_ok t w ea q⟩
    | _ => cases ea
theorem sg_lst {is : List Nat} {k : Nat} (hF : F.K = X.K) (hc : X.calm = true) (h : SGs X es is) (hn : (assignEach es X.env).length = is.length := by rfl) (hst : (assignEach es X.env).findIdx? (·.1) = none := by rfl) : SG X F (.Tuple es k pos) (aLst is) :=
  PG.imp (pg_lst hc h hn hst) fun v σ H Q ⟨g, ρ, ρ', d, e1, e2, m, w, r, ea, q⟩ => by
    subst e2
    cases d with
    | lst ds =>
      obtain ⟨a, xs, rfl, q1, t⟩ := r
      have eK : g.K = X.K := by rw [← hF, ← e1]; rfl
      exact ⟨a, xs, rfl, eK ▸ q1.sq, by rw [← t.length]; exact setD_len ea, gNs_ok t w ea q⟩
    | _ => cases ea
def sAsg (a : Tgt) (f : Sem) : SemS := fun ρ μ => (f ρ μ).s ρ fun d μ => match a d ρ with
  | some ρ' => .next ρ' μ
  | none => .bad
/-- a, b = e -/
theorem ss_asg {a : Tgt} {tg : Expr} (h : SE X F W e f) (hg : SG X F tg a) (hs : swapsWithSole [tg] e pos.line X.env = pure false := by rfl) (hw : swappedStores [tg] e X.env = pure none := by rfl)
    (h1 : (assignEach [tg] X.env).map (·.2) = [assign tg X.env] := by rfl) : SS X F W (.Assign [tg] e pos) (sAsg a f) :=
  PS.imp (ps_asg h hg hs hw h1) fun D σ H ⟨g, ρ, e1, e2, m, v, o⟩ => ⟨g, ρ, e1, e2, m, v, o.ex v fun d g1 w m1 x1 r1 o1 => by
    cases ea : a d ρ with
    | none => simp only [ea] at o1; exact o1.elim
    | some ρ' =>
      simp only [ea] at o1
      exact ⟨g1, ρ, ρ', d, x1.fx.trans e1, rfl, m1, v.mono x1, r1, ea, fun σ' w' => o1.here m1 w'⟩⟩
/-- a, b = x, y with both sides written -/
def sPar (i j : Nat) (f : SemA) : SemS := fun ρ μ => (f ρ μ).s ρ fun ds μ => match ds with
  | [d, e] => .next ((ρ.set i (some d)).set j (some e)) μ
  | _ => .bad
theorem ss_par {fa : SemA} (i j : Nat) {x y : Str} {a b : Expr} {px py pt : Pos} {kt k2 : Nat} {pt2 : Pos} (hc : X.calm = true) (hN : X.N.Nodup) (ha : SA X F W [a, b] fa) (hi : X.N[i]? = some x := by rfl) (hj : X.N[j]? = some y := by rfl) (hij : i ≠ j := by decide)
    (hx : X.env.scope.names.lookup x = some .local := by rfl) (hy : X.env.scope.names.lookup y = some .local := by rfl) (hw : swappedStores [.Tuple [.Name x px, .Name y py] kt pt] (.Tuple [a, b] k2 pt2) X.env = pure (some [x, y]) := by rfl)
    (hs : swapsWithSole [.Tuple [.Name x px, .Name y py] kt pt] (.Tuple [a, b] k2 pt2) pos.line X.env = pure false := by rfl) : SS X F W (.Assign [.Tuple [.Name x px, .Name y py] kt pt] (.Tuple [a, b] k2 pt2) pos) (sPar i j fa) :=
  PS.imp (ps_par hc hN hi hj hij hx hy ha hw hs) fun D σ H ⟨g, ρ, e1, e2, m, v, o⟩ => ⟨g, ρ, e1, e2, m, v, o.ex v fun ds g1 vs m1 x1 r1 o1 => by
    match ds, r1, o1 with
    | [d, e], r1, o1 =>
      obtain ⟨v1, vs1, rfl, q1, v2, vs2, rfl, q2, r3⟩ := r1
      cases r3
      exact ⟨v1, v2, rfl, OutS.here o1 m1 (((v.mono x1).set i q1).set j q2)⟩
    | [], _, o1 => exact o1.elim
    | [_], _, o1 => exact o1.elim
    | _ :: _ :: _ :: _, _, o1 => exact o1.elim⟩
end

/-! ### what is walked -/
/-- what must stay as it is while a list in a cell is walked -/
abbrev Grd := Option (Nat × Cell)
def Grd.ok : Grd → Mem → Prop
  | none, _ => True
  | some (n, c), μ => μ[n]? = some c
structure Wk where
  ds : List D
  gd : Grd
abbrev SemI := Env → Mem → R Wk
def RepI (g : G) (w : Wk) (J : It) : Prop := ∀ g2 : G, Ext g g2 → MemOk g2 → w.gd.ok g2.μ → ∀ i : Nat,
  (∀ d, w.ds[i]? = some d → J.go i g2.H ∧ ∀ x H', J.yld i g2.H x H' → ∃ g3 : G, g3.H = H' ∧ g3.μ = g2.μ ∧ MemOk g3 ∧ Ext g2 g3 ∧ Rep g3 d x) ∧ (i = w.ds.length → J.stop i g2.H)
def tI (F : Fx) (W : WX) (f : SemI) : TI := fun σ H R =>
  ∃ (g : G) (ρ : Env), g.fx = F ∧ g.H = H ∧ MemOk g ∧ EnvOk g ρ σ ∧ w_gd f ρ g ∧ Out RepI (fun c d H' => W c d σ H') g (f ρ g.μ) R
where w_gd (f : SemI) (ρ : Env) (g : G) : Prop := ∀ w μ, f ρ g.μ = .ok w μ → w.gd.ok μ
def SI (X : Cx) (F : Fx) (W : WX) (tg e : Expr) (f : SemI) : Prop := ∀ (pins : List (Addr × Obj)) (s : Shared) (σ : L2.St) (H : Hp) (R : It → Hp → Prop), Inv X pins σ H s →
  (∃ (g : G) (ρ : Env), g.fx = F ∧ g.H = H ∧ MemOk g ∧ EnvOk g ρ σ ∧ Out (fun g w J => RepI g w J ∧ w.gd.ok g.μ) (fun c d H' => W c d σ H') g (f ρ g.μ) R) →
    wpAny (model X.prog X.w) X.A (eval e X.env) (fun v s1 => wpAny (model X.prog X.w) X.A (pyIter v) (PIE X pins σ tg R) X.xe s1) X.xe s
def tIt (F : Fx) (W : WX) (f : SemI) : TI := fun σ H R =>
  ∃ (g : G) (ρ : Env), g.fx = F ∧ g.H = H ∧ MemOk g ∧ EnvOk g ρ σ ∧ Out (fun g w J => RepI g w J ∧ w.gd.ok g.μ) (fun c d H' => W c d σ H') g (f ρ g.μ) R
theorem SI.pi {X : Cx} {F : Fx} {W : WX} {tg e : Expr} {f : SemI} (h : SI X F W tg e f) : PI X tg e (tIt F W f) := ⟨h⟩
/-- a list, a tuple, a text by its value -/
def wkD (d : D) (μ : Mem) : Option Wk := match d with
  | .lst ds => some ⟨ds, none⟩
  | .sq ds => some ⟨ds, none⟩
  | .tup ds => some ⟨ds, none⟩
  | .str x => some ⟨x.cps.toList.map fun c => .str ⟨#[c]⟩, none⟩
  | .obj n => match μ[n]? with
    | some (.lst ds) => some ⟨ds, some (n, .lst ds)⟩
    | some (.fz (.lst ds)) => some ⟨ds, some (n, .fz (.lst ds))⟩
    | _ => none
  | _ => none
def iVal (f : Sem) : SemI := fun ρ μ => (f ρ μ).bind fun d μ => R.ofP μ (wkD d μ)
theorem repI_list {g : G} {K : PySem.W.Frag} (eK : g.K = K) {a : Addr} {w : Wk} (h : ∀ g2 : G, Ext g g2 → MemOk g2 → w.gd.ok g2.μ → ∃ xs, SqL K g2.H a xs ∧ RepL g2 w.ds xs) : RepI g w (Itl K a) := fun g2 x m ok i => by
  obtain ⟨xs, q, r⟩ := h g2 x m ok
  refine ⟨fun d hd => ?_, fun e => ⟨xs, q, by rw [e, r.length]; exact Nat.le_refl _⟩⟩
  obtain ⟨v, hv, rv⟩ := r.get' hd
  refine ⟨⟨xs, v, q, hv⟩, fun y H' ⟨e1, f⟩ => ⟨g2, e1.symm, rfl, m, Ext.refl g2, ?_⟩⟩
  have := f xs q
  rw [hv] at this
  cases this
  exact rv
theorem repI_tup {g : G} {K : PySem.W.Frag} (eK : g.K = K) {a : Addr} {w : Wk} (h : ∀ g2 : G, Ext g g2 → MemOk g2 → w.gd.ok g2.μ → ∃ xs, SqT K g2.H a xs ∧ RepL g2 w.ds xs) : RepI g w (Itt K a) := fun g2 x m ok i => by
  obtain ⟨xs, q, r⟩ := h g2 x m ok
  refine ⟨fun d hd => ?_, fun e => ⟨xs, q, by rw [e, r.length]; exact Nat.le_refl _⟩⟩
  obtain ⟨v, hv, rv⟩ := r.get' hd
  refine ⟨⟨xs, v, q, hv⟩, fun y H' ⟨e1, f⟩ => ⟨g2, e1.symm, rfl, m, Ext.refl g2, ?_⟩⟩
  have := f xs q
  rw [hv] at this
  cases this
  exact rv
theorem repI_str {g : G} {x : Str} : RepI g ⟨x.cps.toList.map fun c => .str ⟨#[c]⟩, none⟩ (Its x) := fun g2 y m ok i => by
  refine ⟨fun d hd => ?_, fun e => ?_⟩
  · have hd' : (x.cps.toList.map fun c => D.str ⟨#[c]⟩)[i]? = some d := hd
    rw [List.getElem?_map] at hd'
    cases q : x.cps.toList[i]? with
    | none => rw [q] at hd'; cases hd'
    | some c =>
      rw [q] at hd'
      have ed : d = D.str ⟨#[c]⟩ := (Option.some.inj hd').symm
      subst ed
      have hi : i < x.cps.size := by
        have := (List.getElem?_eq_some_iff.mp q).1
        rwa [Array.length_toList] at this
      refine ⟨hi, fun v H' ⟨e1, c2, h1, h2⟩ => ⟨g2, e1.symm, rfl, m, Ext.refl g2, ?_⟩⟩
      have : x.cps[i]? = some c := by rw [← Array.getElem?_toList]; exact q
      rw [this] at h1
      cases h1
      exact h2
  · show x.cps.size ≤ i
    have : i = (x.cps.toList.map fun c => D.str ⟨#[c]⟩).length := e
    rw [List.length_map, Array.length_toList] at this
    omega
theorem si_val {X : Cx} {F : Fx} {W : WX} {tg e : Expr} {f : Sem} (hF : F.K = X.K) (h : SE X F W e f) : SI X F W tg e (iVal f) := by
  intro pins s σ H RR I hh
  obtain ⟨g, ρ, e1, rfl, m, v, o⟩ := hh
  have o : Out (fun g w J => RepI g w J ∧ w.gd.ok g.μ) (fun c d H' => W c d σ H') g ((f ρ g.μ).bind fun d μ => R.ofP μ (wkD d μ)) RR := o
  cases hf : f ρ g.μ with
  | bad => rw [hf] at o; exact o.elim
  | exc ex μ =>
    rw [hf] at o
    refine (pi_list h).run pins s σ g.H RR I ⟨g, ρ, e1, rfl, m, v, ?_⟩
    rw [hf]; exact o
  | ok d μ =>
    rw [hf] at o
    have o : Out (fun g w J => RepI g w J ∧ w.gd.ok g.μ) (fun c d H' => W c d σ H') g (R.ofP μ (wkD d μ)) RR := o
    cases d with
    | lst ds =>
      refine (pi_list h).run pins s σ g.H RR I ⟨g, ρ, e1, rfl, m, v, ?_⟩
      rw [hf]
      intro g1 b em m1 x1 r1
      have r1' := r1
      obtain ⟨a, xs, rfl, q, t⟩ := r1
      have eK : g1.K = X.K := fxK (x1.fx.trans e1) hF
      refine ⟨a, rfl, ⟨xs, eK ▸ q.sq⟩, o g1 _ em m1 x1 ⟨repI_list eK fun g2 x2 m2 _ => ?_, trivial⟩⟩
      obtain ⟨a2, ys, e2, q2, t2⟩ := r1'.mono x2
      cases e2
      exact ⟨ys, (x2.k.trans eK) ▸ q2.sq, t2⟩
    | sq ds =>
      refine (pi_list h).run pins s σ g.H RR I ⟨g, ρ, e1, rfl, m, v, ?_⟩
      rw [hf]
      intro g1 b em m1 x1 r1
      have r1' := r1
      obtain ⟨a, xs, rfl, q, t⟩ := r1
      have eK : g1.K = X.K := fxK (x1.fx.trans e1) hF
      refine ⟨a, rfl, ⟨xs, eK ▸ q.sq⟩, o g1 _ em m1 x1 ⟨repI_list eK fun g2 x2 m2 _ => ?_, trivial⟩⟩
      obtain ⟨a2, ys, e2, q2, t2⟩ := r1'.mono x2
      cases e2
      exact ⟨ys, (x2.k.trans eK) ▸ q2.sq, t2⟩
    | tup ds =>
      refine (pi_tup h).run pins s σ g.H RR I ⟨g, ρ, e1, rfl, m, v, ?_⟩
      rw [hf]
      intro g1 b em m1 x1 r1
      have r1' := r1
      obtain ⟨a, xs, rfl, q, t⟩ := r1
      have eK : g1.K = X.K := fxK (x1.fx.trans e1) hF
      refine ⟨a, rfl, ⟨xs, eK ▸ q.sq⟩, o g1 _ em m1 x1 ⟨repI_tup eK fun g2 x2 m2 _ => ?_, trivial⟩⟩
      obtain ⟨a2, ys, e2, q2, t2⟩ := r1'.mono x2
      cases e2
      exact ⟨ys, (x2.k.trans eK) ▸ q2.sq, t2⟩
    | str x =>
      refine (pi_str h).run pins s σ g.H RR I ⟨g, ρ, e1, rfl, m, v, ?_⟩
      rw [hf]
      intro g1 b em m1 x1 r1
      have r1' : b = .str x := r1
      subst r1'
      exact ⟨x, rfl, o g1 _ em m1 x1 ⟨repI_str, trivial⟩⟩
    | obj n =>
      refine (pi_list h).run pins s σ g.H RR I ⟨g, ρ, e1, rfl, m, v, ?_⟩
      rw [hf]
      intro g1 b em m1 x1 r1
      have r1' : Rep g1 (.obj n) b := r1
      obtain ⟨a, q, rfl⟩ := r1
      subst em
      have eK : g1.K = X.K := fxK (x1.fx.trans e1) hF
      cases hc : g1.μ[n]? with
      | none => simp only [wkD, hc] at o; exact o.elim
      | some c =>
        have cr := m1.cells n a c q hc
        have key : ∀ (ds : List D), c = .lst ds ∨ c = .fz (.lst ds) → Out (fun g w J => RepI g w J ∧ w.gd.ok g.μ) (fun c d H' => W c d σ H') g (R.ok ⟨ds, some (n, c)⟩ g1.μ) RR → ∃ a', V.ref a = V.ref a' ∧ (∃ xs, SqL X.K g1.H a' xs) ∧ RR (Itl X.K a') g1.H := by
          intro ds hcd o2
          have rd : ∀ g2 : G, Ext g1 g2 → MemOk g2 → g2.μ[n]? = some c → ∃ xs, SqL X.K g2.H a xs ∧ RepL g2 ds xs := by
            intro g2 x2 m2 hc2
            obtain ⟨a2, xs, e2, q2, t2⟩ := lstD_rep (g := g2) (ds := ds) m2 (d := .obj n) (v := .ref a) ⟨a, x2.get q, rfl⟩ (by
              rcases hcd with rfl | rfl <;> simp [lstD, hc2])
            cases e2
            exact ⟨xs, (x2.k.trans eK) ▸ q2, t2⟩
          obtain ⟨xs, q2, _⟩ := rd g1 (Ext.refl g1) m1 hc
          exact ⟨a, rfl, ⟨xs, q2⟩, o2 g1 _ rfl m1 x1 ⟨repI_list eK fun g2 x2 m2 ok => rd g2 x2 m2 ok, hc⟩⟩
        cases c with
        | lst ds => simp only [wkD, hc] at o; exact key ds (.inl rfl) o
        | fz d =>
          cases d with
          | lst ds => simp only [wkD, hc] at o; exact key ds (.inr rfl) o
          | _ => simp only [wkD, hc] at o; exact o.elim
        | _ => simp only [wkD, hc] at o; exact o.elim
    | _ => exact o.elim
end Z

namespace Z
open PySem PySem.Spec PyProof.Rows L2
open Classical in
/-- what stands behind a turn of a loop -/
noncomputable def forG (gd : Grd) (μ : Mem) (r : RS) : RS := if gd.ok μ then r else .bad
noncomputable def forL (gd : Grd) (a : Tgt) (b : SemS) : List D → SemS
  | [], ρ, μ => .next ρ μ
  | d :: ds, ρ, μ => match a d ρ with
    | none => .bad
    | some ρ1 => match b ρ1 μ with
      | .next ρ2 μ2 => forG gd μ2 (forL gd a b ds ρ2 μ2)
      | .cont ρ2 μ2 => forG gd μ2 (forL gd a b ds ρ2 μ2)
      | .brk ρ2 μ2 => .next ρ2 μ2
      | r => r
noncomputable def sFor (i : SemI) (a : Tgt) (b : SemS) : SemS := fun ρ μ => (i ρ μ).s ρ fun w μ => forL w.gd a b w.ds ρ μ
theorem forG_next {gd : Grd} {μ : Mem} {r : RS} {D : Ends} {W : WX} {g : G} (h : OutS D W g (forG gd μ r)) : gd.ok μ ∧ OutS D W g r := by
  unfold forG at h
  by_cases c : gd.ok μ
  · rw [if_pos c] at h; exact ⟨c, h⟩
  · rw [if_neg c] at h; exact h.elim
section
variable {X : Cx} {F : Fx} {W : WX} {tg iter c : Expr} {body : List Stmt} {fi : SemI} {a : Tgt} {fb : SemS} {t : SemT} {pos : Pos}
theorem ss_for (hp : PassesOwn (model X.prog X.w) X.A X.env X.xe) (hc : X.calm = true) (hi : SI X F W tg iter fi) (hg : SG X F tg a) (hb : SSs X F W body fb) (hs : ∀ x, foldedSetIterable iter X.env x = pure x := by intro _; rfl) : SS X F W (.For tg iter body [] pos) (sFor fi a fb) :=
  PS.imp (ps_for hp hc hi.pi hg hb hs) fun D σ H ⟨g, ρ, e1, e2, m, v, o⟩ => by
    refine ⟨g, ρ, e1, e2, m, v, o.ex v fun w g1 J m1 x1 ⟨rw1, gd1⟩ o1 => ?_⟩
    refine ⟨fun i n σ2 H2 => ∃ (g2 : G) (ρ2 : Env), g2.H = H2 ∧ Ext g1 g2 ∧ MemOk g2 ∧ EnvOk g2 ρ2 σ2 ∧ w.gd.ok g2.μ ∧ i + n = w.ds.length ∧ OutS D W g2 (forL w.gd a fb (w.ds.drop i) ρ2 g2.μ),
      ⟨w.ds.length, g1, ρ, rfl, Ext.refl g1, m1, v.mono x1, gd1, by omega, o1⟩, fun i n σ2 H2 hW => ?_⟩
    obtain ⟨g2, ρ2, rfl, x2, m2, v2, gd2, en, o2⟩ := hW
    cases hd : w.ds[i]? with
    | none =>
      have hl : w.ds.length ≤ i := List.getElem?_eq_none_iff.mp hd
      have hi2 : i = w.ds.length := by omega
      refine .inl ⟨(rw1 g2 x2 m2 gd2 i).2 hi2, ?_⟩
      rw [List.drop_of_length_le hl] at o2
      exact OutS.here o2 m2 v2
    | some d =>
      obtain ⟨go, yl⟩ := (rw1 g2 x2 m2 gd2 i).1 d hd
      have hl : i < w.ds.length := (List.getElem?_eq_some_iff.mp hd).1
      have ed : w.ds.drop i = d :: w.ds.drop (i + 1) := by
        rw [List.drop_eq_getElem_cons hl]
        rw [List.getElem?_eq_getElem hl] at hd
        rw [Option.some.inj hd]
      rw [ed] at o2
      refine .inr ⟨go, fun σ3 H3 => ∃ (g3 : G) (ρ3 : Env), g3.H = H3 ∧ Ext g1 g3 ∧ MemOk g3 ∧ EnvOk g3 ρ3 σ3 ∧ w.gd.ok g3.μ ∧ OutS D W g3 (forL w.gd a fb (w.ds.drop (i + 1)) ρ3 g3.μ), fun σ3 H3 ⟨g3, ρ3, h3, x3, m3, v3, gd3, o3⟩ => ⟨n - 1, by omega, g3, ρ3, h3, x3, m3, v3, gd3, by omega, o3⟩, fun x H' hy => ?_⟩
      obtain ⟨g3, rfl, em, m3, x3, r3⟩ := yl x H' hy
      have o3 := o2
      unfold forL at o3
      cases ea : a d ρ2 with
      | none => simp only [ea] at o3; exact o3.elim
      | some ρ3 =>
        simp only [ea] at o3
        refine ⟨g3, ρ2, ρ3, d, (x3.fx.trans (x2.fx.trans (x1.fx.trans e1))), rfl, m3, v2.mono x3, r3, ea, fun σ3 v3 => ?_⟩
        refine ⟨g3, ρ3, (x3.fx.trans (x2.fx.trans (x1.fx.trans e1))), rfl, m3, v3, ?_⟩
        rw [← em] at o3
        have x13 : Ext g1 g3 := x2.trans x3
        cases eb : fb ρ3 g3.μ with
        | next ρ4 μ4 =>
          rw [eb] at o3
          obtain ⟨gd4, o4⟩ := forG_next (g := g2) o3
          intro g4 σ4 e4 m4 x4 v4
          subst e4
          exact ⟨g4, ρ4, rfl, x13.trans x4, m4, v4, gd4, o4.from (x3.trans x4)⟩
        | cont ρ4 μ4 =>
          rw [eb] at o3
          obtain ⟨gd4, o4⟩ := forG_next (g := g2) o3
          intro g4 σ4 e4 m4 x4 v4
          subst e4
          exact ⟨g4, ρ4, rfl, x13.trans x4, m4, v4, gd4, o4.from (x3.trans x4)⟩
        | brk ρ4 μ4 =>
          rw [eb] at o3
          intro g4 σ4 e4 m4 x4 v4
          exact o3 g4 σ4 e4 m4 (x3.trans x4) v4
        | ret d μ4 => rw [eb] at o3; exact OutS.from (D := D) (r := .ret d μ4) o3 x3
        | exc e ρ4 μ4 => rw [eb] at o3; exact OutS.from (D := D) (r := .exc e ρ4 μ4) o3 x3
        | bad => rw [eb] at o3; exact o3.elim

/-! ### while -/
def whileN (c : SemT) (b : SemS) : Nat → SemS
  | 0, _, _ => .bad
  | n + 1, ρ, μ => (c ρ μ).s ρ fun k μ1 => if k = true then (match b ρ μ1 with
      | .next ρ2 μ2 => whileN c b n ρ2 μ2
      | .cont ρ2 μ2 => whileN c b n ρ2 μ2
      | .brk ρ2 μ2 => .next ρ2 μ2
      | r => r) else .next ρ μ1
theorem whileN_succ (c : SemT) (b : SemS) (n : Nat) (ρ : Env) (μ : Mem) : whileN c b (n + 1) ρ μ = (c ρ μ).s ρ fun k μ1 => if k = true then (match b ρ μ1 with
      | .next ρ2 μ2 => whileN c b n ρ2 μ2
      | .cont ρ2 μ2 => whileN c b n ρ2 μ2
      | .brk ρ2 μ2 => .next ρ2 μ2
      | r => r) else .next ρ μ1 := rfl
theorem whileN_mono {c : SemT} {b : SemS} : ∀ {n : Nat} {ρ : Env} {μ : Mem}, whileN c b n ρ μ ≠ .bad → whileN c b (n + 1) ρ μ = whileN c b n ρ μ
  | 0, _, _, h => (h rfl).elim
  | n + 1, ρ, μ, h => by
    unfold whileN at h
    rw [whileN_succ c b (n + 1), whileN_succ c b n]
    cases hc : c ρ μ with
    | bad => rfl
    | exc e μ1 => rfl
    | ok k μ1 =>
      rw [hc] at h
      cases k with
      | false => rfl
      | true =>
        show (match b ρ μ1 with | .next ρ2 μ2 => whileN c b (n + 1) ρ2 μ2 | .cont ρ2 μ2 => whileN c b (n + 1) ρ2 μ2 | .brk ρ2 μ2 => .next ρ2 μ2 | r => r) = (match b ρ μ1 with | .next ρ2 μ2 => whileN c b n ρ2 μ2 | .cont ρ2 μ2 => whileN c b n ρ2 μ2 | .brk ρ2 μ2 => .next ρ2 μ2 | r => r)
        have h' : (match b ρ μ1 with | .next ρ2 μ2 => whileN c b n ρ2 μ2 | .cont ρ2 μ2 => whileN c b n ρ2 μ2 | .brk ρ2 μ2 => .next ρ2 μ2 | r => r) ≠ RS.bad := h
        cases hb : b ρ μ1 with
        | next ρ2 μ2 => rw [hb] at h'; exact whileN_mono h'
        | cont ρ2 μ2 => rw [hb] at h'; exact whileN_mono h'
        | brk _ _ => rfl
        | ret _ _ => rfl
        | exc _ _ _ => rfl
        | bad => rfl
theorem whileN_le {c : SemT} {b : SemS} {n m : Nat} {ρ : Env} {μ : Mem} (hn : whileN c b n ρ μ ≠ .bad) (h : n ≤ m) : whileN c b m ρ μ = whileN c b n ρ μ := by
  induction h with
  | refl => rfl
  | step h ih => rw [whileN_mono (by rw [ih]; exact hn), ih]
open Classical in
noncomputable def sWhile (c : SemT) (b : SemS) : SemS := fun ρ μ => if h : ∃ n, whileN c b n ρ μ ≠ .bad then whileN c b (Classical.choose h) ρ μ else .bad
theorem sWhile_of {c : SemT} {b : SemS} {n : Nat} {ρ : Env} {μ : Mem} {r : RS} (h : whileN c b n ρ μ = r) (hr : r ≠ .bad) : sWhile c b ρ μ = r := by
  have hx : ∃ n, whileN c b n ρ μ ≠ .bad := ⟨n, by rw [h]; exact hr⟩
  unfold sWhile
  rw [dif_pos hx]
  have h1 := Classical.choose_spec hx
  have h2 : whileN c b n ρ μ ≠ .bad := by rw [h]; exact hr
  rcases Nat.le_total (Classical.choose hx) n with l | l
  · rw [← whileN_le h1 l, h]
  · rw [whileN_le h2 l, h]
theorem sWhile_ex {c : SemT} {b : SemS} {ρ : Env} {μ : Mem} (h : sWhile c b ρ μ ≠ .bad) : ∃ n, whileN c b n ρ μ = sWhile c b ρ μ := by
  by_cases hx : ∃ n, whileN c b n ρ μ ≠ .bad
  · refine ⟨Classical.choose hx, ?_⟩
    unfold sWhile
    rw [dif_pos hx]
  · exact absurd (by unfold sWhile; rw [dif_neg hx]) h
/-- one turn -/
noncomputable def whileStep (c : SemT) (b : SemS) (k : SemS) : SemS := fun ρ μ => (c ρ μ).s ρ fun q μ1 => if q = true then (match b ρ μ1 with
      | .next ρ2 μ2 => k ρ2 μ2
      | .cont ρ2 μ2 => k ρ2 μ2
      | .brk ρ2 μ2 => .next ρ2 μ2
      | r => r) else .next ρ μ1
theorem whileN_of_step {c : SemT} {b : SemS} {ρ : Env} {μ : Mem} {r : RS} (h : whileStep c b (sWhile c b) ρ μ = r) (hr : r ≠ .bad) : ∃ n, whileN c b n ρ μ = r := by
  unfold whileStep at h
  cases hc : c ρ μ with
  | bad => rw [hc] at h; exact absurd h.symm hr
  | exc e μ1 => rw [hc] at h; exact ⟨1, by rw [whileN_succ, hc]; exact h⟩
  | ok k μ1 =>
    rw [hc] at h
    cases k with
    | false => exact ⟨1, by rw [whileN_succ, hc]; exact h⟩
    | true =>
      have h' : (match b ρ μ1 with | .next ρ2 μ2 => sWhile c b ρ2 μ2 | .cont ρ2 μ2 => sWhile c b ρ2 μ2 | .brk ρ2 μ2 => .next ρ2 μ2 | r => r) = r := h
      have key : ∀ ρ2 μ2, sWhile c b ρ2 μ2 = r → (b ρ μ1 = .next ρ2 μ2 ∨ b ρ μ1 = .cont ρ2 μ2) → ∃ n, whileN c b n ρ μ = r := by
        intro ρ2 μ2 hs hb
        obtain ⟨n, hn⟩ := sWhile_ex (c := c) (b := b) (ρ := ρ2) (μ := μ2) (by rw [hs]; exact hr)
        refine ⟨n + 1, ?_⟩
        rw [whileN_succ, hc]
        show (match b ρ μ1 with | .next ρ2 μ2 => whileN c b n ρ2 μ2 | .cont ρ2 μ2 => whileN c b n ρ2 μ2 | .brk ρ2 μ2 => .next ρ2 μ2 | r => r) = r
        rcases hb with hb | hb <;> rw [hb] <;> exact hn.trans hs
      cases hb : b ρ μ1 with
      | next ρ2 μ2 => rw [hb] at h'; exact key ρ2 μ2 h' (.inl hb)
      | cont ρ2 μ2 => rw [hb] at h'; exact key ρ2 μ2 h' (.inr hb)
      | brk ρ2 μ2 => rw [hb] at h'; exact ⟨1, by rw [whileN_succ, hc]; show (match b ρ μ1 with | .next ρ2 μ2 => whileN c b 0 ρ2 μ2 | .cont ρ2 μ2 => whileN c b 0 ρ2 μ2 | .brk ρ2 μ2 => .next ρ2 μ2 | r => r) = r; rw [hb]; exact h'⟩
      | ret d μ2 => rw [hb] at h'; exact ⟨1, by rw [whileN_succ, hc]; show (match b ρ μ1 with | .next ρ2 μ2 => whileN c b 0 ρ2 μ2 | .cont ρ2 μ2 => whileN c b 0 ρ2 μ2 | .brk ρ2 μ2 => .next ρ2 μ2 | r => r) = r; rw [hb]; exact h'⟩
      | exc e ρ2 μ2 => rw [hb] at h'; exact ⟨1, by rw [whileN_succ, hc]; show (match b ρ μ1 with | .next ρ2 μ2 => whileN c b 0 ρ2 μ2 | .cont ρ2 μ2 => whileN c b 0 ρ2 μ2 | .brk ρ2 μ2 => .next ρ2 μ2 | r => r) = r; rw [hb]; exact h'⟩
      | bad => rw [hb] at h'; exact absurd h'.symm hr
theorem sWhile_step {c : SemT} {b : SemS} {ρ : Env} {μ : Mem} {r : RS} (h : whileStep c b (sWhile c b) ρ μ = r) (hr : r ≠ .bad) : sWhile c b ρ μ = r := by
  obtain ⟨n, hn⟩ := whileN_of_step h hr
  exact sWhile_of hn hr
theorem ss_while (hp : PassesOwn (model X.prog X.w) X.A X.env X.xe) (hc : ST X F W c t) (hb : SSs X F W body fb) : SS X F W (.While c body [] pos) (sWhile t fb) :=
  PS.imp (ps_while hp hc hb) fun D σ H ⟨g, ρ, e1, e2, m, v, o⟩ => by
    have hne : sWhile t fb ρ g.μ ≠ .bad := fun z => by rw [z] at o; exact o
    obtain ⟨n0, hn0⟩ := sWhile_ex hne
    rw [← hn0] at o
    refine ⟨fun n σ2 H2 => ∃ (g2 : G) (ρ2 : Env), g2.fx = F ∧ g2.H = H2 ∧ MemOk g2 ∧ EnvOk g2 ρ2 σ2 ∧ OutS D W g2 (whileN t fb n ρ2 g2.μ), ⟨n0, g, ρ, e1, e2, m, v, o⟩, fun n σ2 H2 hW => ?_⟩
    obtain ⟨g2, ρ2, f2, rfl, m2, v2, o2⟩ := hW
    cases n with
    | zero => exact o2.elim
    | succ n =>
      rw [whileN_succ] at o2
      refine ⟨g2, ρ2, f2, rfl, m2, v2, o2.ex v2 fun k g3 b m3 x3 r3 o3 => ?_⟩
      cases r3
      cases k with
      | false => exact iteF (OutS.here o3 m3 (v2.mono x3))
      | true =>
        refine iteT ⟨fun σ4 H4 => ∃ (g4 : G) (ρ4 : Env), g4.fx = F ∧ g4.H = H4 ∧ MemOk g4 ∧ EnvOk g4 ρ4 σ4 ∧ OutS D W g4 (whileN t fb n ρ4 g4.μ), fun σ4 H4 h4 => ⟨n, Nat.lt_succ_self n, h4⟩, ?_⟩
        refine ⟨g3, ρ2, x3.fx.trans f2, rfl, m3, v2.mono x3, ?_⟩
        have o3 : OutS D W g3 (match fb ρ2 g3.μ with | .next ρ2 μ2 => whileN t fb n ρ2 μ2 | .cont ρ2 μ2 => whileN t fb n ρ2 μ2 | .brk ρ2 μ2 => .next ρ2 μ2 | r => r) := o3
        cases eb : fb ρ2 g3.μ with
        | next ρ4 μ4 =>
          rw [eb] at o3
          intro g4 σ4 e4 m4 x4 v4
          subst e4
          exact ⟨g4, ρ4, x4.fx.trans (x3.fx.trans f2), rfl, m4, v4, OutS.from (r := whileN t fb n ρ4 g4.μ) o3 x4⟩
        | cont ρ4 μ4 =>
          rw [eb] at o3
          intro g4 σ4 e4 m4 x4 v4
          subst e4
          exact ⟨g4, ρ4, x4.fx.trans (x3.fx.trans f2), rfl, m4, v4, OutS.from (r := whileN t fb n ρ4 g4.μ) o3 x4⟩
        | brk ρ4 μ4 => rw [eb] at o3; exact o3
        | ret d μ4 => rw [eb] at o3; exact o3
        | exc e ρ4 μ4 => rw [eb] at o3; exact o3
        | bad => rw [eb] at o3; exact o3.elim
end
end Z

namespace Z
open PySem PySem.Spec PyProof.Rows L2

/-! ### comprehensions -/
/-- nothing is raised within -/
def R.bindB {α β : Type} : R α → (α → Mem → R β) → R β
  | .ok a μ, k => k a μ
  | _, _ => .bad
open Classical in
noncomputable def lcG {β : Type} (gd : Grd) (μ : Mem) (r : R β) : R β := if gd.ok μ then r else .bad
noncomputable def lcL (gd : Grd) (a : Tgt) (t : SemT) (e : Sem) (ρ : Env) : List D → Mem → R (List D)
  | [], μ => .ok [] μ
  | d :: ds, μ => match a d ρ with
    | none => .bad
    | some ρ1 => (t ρ1 μ).bindB fun k μ1 => if k = true
        then (e ρ1 μ1).bindB fun y μ2 => lcG gd μ2 ((lcL gd a t e ρ ds μ2).bindB fun ys μ3 => .ok (y :: ys) μ3)
        else lcG gd μ1 (lcL gd a t e ρ ds μ1)
def tYes : SemT := fun _ μ => .ok true μ
noncomputable def fLc (i : SemI) (a : Tgt) (t : SemT) (e : Sem) (own : List Nat) : SemA := fun ρ μ => (i ρ μ).bind fun w μ => if w.ds.length ≤ sizeLine then lcL w.gd a t e (wipeD ρ own) w.ds μ else .bad
theorem bindB_ok {α β : Type} {r : R α} {k : α → Mem → R β} {b : β} {μ : Mem} (h : r.bindB k = .ok b μ) : ∃ a μ1, r = .ok a μ1 ∧ k a μ1 = .ok b μ := by
  cases r with
  | ok a μ1 => exact ⟨a, μ1, rfl, h⟩
  | exc _ _ => cases h
  | bad => cases h
theorem lcG_ok {β : Type} {gd : Grd} {μ μ' : Mem} {r : R β} {b : β} (h : lcG gd μ r = .ok b μ') : gd.ok μ ∧ r = .ok b μ' := by
  unfold lcG at h
  by_cases c : gd.ok μ
  · rw [if_pos c] at h; exact ⟨c, h⟩
  · rw [if_neg c] at h; cases h
theorem bindB_cases {α β : Type} (r : R α) (k : α → Mem → R β) (hk : ∀ a μ, k a μ = .bad ∨ ∃ b μ', k a μ = .ok b μ') : r.bindB k = .bad ∨ ∃ b μ', r.bindB k = .ok b μ' := by
  cases r with
  | ok a μ => exact hk a μ
  | exc _ _ => exact .inl rfl
  | bad => exact .inl rfl
theorem lcG_cases {β : Type} {gd : Grd} {μ : Mem} {r : R β} (h : r = .bad ∨ ∃ b μ', r = .ok b μ') : lcG gd μ r = .bad ∨ ∃ b μ', lcG gd μ r = .ok b μ' := by
  unfold lcG
  by_cases c : gd.ok μ
  · rw [if_pos c]; exact h
  · rw [if_neg c]; exact .inl rfl
theorem lcL_cases {gd : Grd} {a : Tgt} {t : SemT} {e : Sem} {ρ : Env} : ∀ (ds : List D) (μ : Mem), lcL gd a t e ρ ds μ = .bad ∨ ∃ ys μ', lcL gd a t e ρ ds μ = .ok ys μ'
  | [], μ => .inr ⟨[], μ, rfl⟩
  | d :: ds, μ => by
    rw [lcL]
    cases a d ρ with
    | none => exact .inl rfl
    | some ρ1 =>
      refine bindB_cases _ _ fun k μ1 => ?_
      cases k with
      | true =>
        rw [if_pos rfl]
        refine bindB_cases _ _ fun y μ2 => lcG_cases (bindB_cases _ _ fun ys μ3 => .inr ⟨_, _, rfl⟩)
      | false =>
        rw [if_neg Bool.false_ne_true]
        exact lcG_cases (lcL_cases ds μ1)
theorem lcL_len {gd : Grd} {a : Tgt} {t : SemT} {e : Sem} {ρ : Env} : ∀ (ds : List D) (μ : Mem) (ys : List D) (μ' : Mem), lcL gd a t e ρ ds μ = .ok ys μ' → ys.length ≤ ds.length
  | [], μ, ys, μ', h => by rw [lcL] at h; cases h; exact Nat.le_refl _
  | d :: ds, μ, ys, μ', h => by
    rw [lcL] at h
    cases ea : a d ρ with
    | none => rw [ea] at h; cases h
    | some ρ1 =>
      rw [ea] at h
      obtain ⟨k, μ1, _, h⟩ := bindB_ok h
      cases k with
      | true =>
        rw [if_pos rfl] at h
        obtain ⟨y, μ2, _, h⟩ := bindB_ok h
        obtain ⟨zs, μ3, h1, h⟩ := bindB_ok (lcG_ok h).2
        cases h
        have := lcL_len ds μ2 zs _ h1
        simp only [List.length_cons]; omega
      | false =>
        rw [if_neg Bool.false_ne_true] at h
        have := lcL_len ds μ1 ys μ' (lcG_ok h).2
        simp only [List.length_cons]; omega
/-- a target within a block: the slots that it does not own stay -/
def gW (F : Fx) (a : Tgt) (vs : List Nat) : TG := fun v σ H Q => ∃ (g : G) (ρ ρ' : Env) (d : D), g.fx = F ∧ g.H = H ∧ MemOk g ∧ EnvOk g ρ σ ∧ Rep g d v ∧ a d ρ = some ρ' ∧ ∀ σ', EnvOk g ρ' σ' → L2.wipe σ' vs = L2.wipe σ vs → Q σ' H
def SGw (X : Cx) (F : Fx) (tg : Expr) (a : Tgt) (vs : List Nat) : Prop := PG X tg (gW F a vs)
theorem wipe_get (σ : L2.St) : ∀ (vs : List Nat) (j : Nat), (L2.wipe σ vs)[j]? = if j ∈ vs ∧ j < σ.length then some none else σ[j]?
  | [], j => by simp [L2.wipe]
  | v :: vs, j => by
    show ((L2.wipe σ vs).set v none)[j]? = _
    rw [List.getElem?_set, wipe_get σ vs j, L2.wipe_length]
    by_cases e : v = j
    · subst e
      by_cases hl : v < σ.length
      · simp [hl]
      · simp [hl]
    · have e' : ¬ j = v := fun z => e z.symm
      simp [e, e']
theorem wipe_set {σ : L2.St} {vs : List Nat} {i : Nat} {x : Option V} (h : i ∈ vs) : L2.wipe (σ.set i x) vs = L2.wipe σ vs := by
  apply List.ext_getElem?
  intro j
  rw [wipe_get, wipe_get, List.length_set]
  by_cases hj : j ∈ vs ∧ j < σ.length
  · rw [if_pos hj, if_pos hj]
  · rw [if_neg hj, if_neg hj, List.getElem?_set]
    by_cases e : i = j
    · subst e
      have hl : ¬ i < σ.length := fun z => hj ⟨h, z⟩
      simp [hl]
    · simp [e]
theorem wipe_wipe (σ : L2.St) (vs : List Nat) : L2.wipe (L2.wipe σ vs) vs = L2.wipe σ vs := by
  apply List.ext_getElem?
  intro j
  rw [wipe_get, L2.wipe_length, wipe_get]
  by_cases hj : j ∈ vs ∧ j < σ.length
  · rw [if_pos hj, if_pos hj]
  · rw [if_neg hj]
theorem gNs_wipe {g : G} {Q : L2.St → Hp → Prop} {ρ' : Env} {vs : List Nat} : ∀ {is : List Nat} {ds : List D} {xs : List V} {ρ : Env} {σ : L2.St}, (∀ i ∈ is, i ∈ vs) → RepL g ds xs → EnvOk g ρ σ → setD is ds ρ = some ρ' → (∀ σ', EnvOk g ρ' σ' → L2.wipe σ' vs = L2.wipe σ vs → Q σ' g.H) → gNs is xs σ g.H Q
  | [], [], _, _, σ, _, r, v, h, q => by cases r; cases h; exact ⟨rfl, q σ v rfl⟩
  | i :: is, d :: ds, _, ρ, σ, hm, r, v, h, q => by
    obtain ⟨w, ws, rfl, r1, r2⟩ := r
    exact ⟨w, ws, rfl, gNs_wipe (fun j hj => hm j (List.mem_cons_of_mem _ hj)) r2 (v.set i r1) h fun σ' v' e => q σ' v' (e.trans (wipe_set (hm i List.mem_cons_self)))⟩
  | [], _ :: _, _, _, _, _, _, _, h, _ => by simp [setD] at h
  | _ :: _, [], _, _, _, _, _, _, h, _ => by simp [setD] at h
section
variable {X : Cx} {F : Fx} {pos : Pos} {es : List Expr}
theorem sw_nm (i : Nat) {x : Str} {vs : List Nat} (hN : X.N.Nodup) (hv : i ∈ vs := by decide) (hi : X.N[i]? = some x := by rfl) (hx : Loc X.env.scope x := by first | exact .inl rfl | exact .inr rfl) (hf : X.fn x = true ∨ X.env.scope.names.lookup x = some .local := by first | exact .inl rfl | exact .inr rfl | assumption) : SGw X F (.Name x pos) (aNm i) vs :=
  PG.imp (pg_name hN hi hx hf) fun v σ H Q ⟨g, ρ, ρ', d, e1, e2, m, w, r, ea, q⟩ => by cases ea; exact q _ (w.set i r) (wipe_set hv)
theorem sw_tup {is : List Nat} {k : Nat} {vs : List Nat} (hF : F.K = X.K) (hc : X.calm = true) (h : SGs X es is) (hv : ∀ i ∈ is, i ∈ vs := by decide) (hn : (assignEach es X.env).length = is.length := by rfl) (hst : (assignEach es X.env).findIdx? (·.1) = none := by rfl) : SGw X F (.Tuple es k pos) (aTup is) vs :=
  PG.imp (pg_tup hc h hn hst) fun v σ H Q ⟨g, ρ, ρ', d, e1, e2, m, w, r, ea, q⟩ => by
    subst e2
    cases d with
    | tup ds =>
      obtain ⟨a, xs, rfl, q1, t⟩ := r
      have eK : g.K = X.K := by rw [← hF, ← e1]; rfl
      exact ⟨a, xs, rfl, eK ▸ q1.sq, by rw [← t.length]; exact setD_len ea, gNs_wipe hv t w ea q⟩
    | _ => cases ea
end

/-- the list in the making is written -/
theorem Pre.pok {g : G} {p : Addr} {o : HO} (hp : p ∈ g.ex) : Pre g (g.put p o) where
  k := rfl
  cl := rfl
  xc := rfl
  xo := rfl
  α := ⟨[], by simp [G.put]⟩
  h := fun b u e n => by
    show upd g.H p o b = _
    rw [upd_ne (neP n (.inr hp))]; exact e
  p := fun a z => .inl z
theorem MemOk.pok {g : G} (m : MemOk g) {p : Addr} {o : HO} (hp : p ∈ g.ex) : MemOk (g.put p o) where
  len := m.len
  nd := m.nd
  tr := fun a ha => by
    show upd g.H p o a ≠ none
    rw [upd_ne (neM ha (m.exd p hp).1)]; exact m.tr a ha
  exd := fun a ha => ⟨(m.exd a ha).1, by
    show upd g.H p o a ≠ none
    by_cases e : a = p
    · subst e; rw [upd_same]; simp
    · rw [upd_ne e]; exact (m.exd a ha).2⟩
  cells := fun n a c x y => (m.cells n a c x y).pre (Pre.pok hp) fun _ => by
    show upd g.H p o a = _
    rw [upd_ne (neM (List.mem_of_getElem? x) (m.exd p hp).1)]
theorem Ext.pok {g g' : G} (e : Ext g g') (m : MemOk g) {p : Addr} {o : HO} (h : g.H p = none) : Ext g (g'.put p o) where
  k := e.k
  cl := e.cl
  xc := e.xc
  xo := e.xo
  α := e.α
  h := fun b u q n => by
    show upd g'.H p o b = _
    rw [upd_ne (ne_of_none q h)]; exact e.h b u q n
  x := fun b hb => by
    show upd g'.H p o b = _
    rw [upd_ne (neM hb (m.fresh h).2.1)]; exact e.x b hb
  s := e.s
  p := e.p
/-- p is nobody's, for a while -/
def G.hold (g : G) (p : Addr) (o : HO) : G := { g with H := upd g.H p o, ex := p :: g.ex }
theorem Ext.hold {g : G} (m : MemOk g) {p : Addr} {o : HO} (h : g.H p = none) : Ext g (g.hold p o) where
  k := rfl
  cl := rfl
  xc := rfl
  xo := rfl
  α := ⟨[], by simp [G.hold]⟩
  h := fun b u e _ => by
    show upd g.H p o b = _
    rw [upd_ne (ne_of_none e h)]; exact e
  x := fun b hb => by
    show upd g.H p o b = _
    rw [upd_ne (neM hb (m.fresh h).2.1)]
  s := fun _ h => List.mem_cons_of_mem _ h
  p := fun a z => by
    rcases z with z | z
    · exact .inl (.inl z)
    · rcases List.mem_cons.mp z with z | z
      · exact .inr (by rw [z]; exact h)
      · exact .inl (.inr z)
theorem MemOk.hold {g : G} (m : MemOk g) {p : Addr} {o : HO} (h : g.H p = none) : MemOk (g.hold p o) where
  len := m.len
  nd := m.nd
  tr := fun a ha => by
    show upd g.H p o a ≠ none
    rw [upd_ne (neN (m.tr a ha) h)]; exact m.tr a ha
  exd := fun a ha => by
    rcases List.mem_cons.mp ha with e | ha
    · subst e
      exact ⟨(m.fresh h).1, by show upd g.H a o a ≠ none; rw [upd_same]; simp⟩
    · exact ⟨(m.exd a ha).1, by
        show upd g.H p o a ≠ none
        rw [upd_ne (neN (m.exd a ha).2 h)]; exact (m.exd a ha).2⟩
  cells := fun n a c x y => (m.cells n a c x y).mono (Ext.hold m h) fun _ => by
    show upd g.H p o a = _
    rw [upd_ne (neN (m.tr a (List.mem_of_getElem? x)) h)]
/-- .. and then it is a new one -/
def G.less (g : G) (p : Addr) (l : List Addr) : G := { g with H := fun b => if b = p then none else g.H b, ex := l }
theorem less_ne {g : G} {p : Addr} {l : List Addr} {b : Addr} (h : b ≠ p) : (g.less p l).H b = g.H b := if_neg h
theorem less_upd {g : G} {p : Addr} {l : List Addr} {o : HO} (h : g.H p = some o) : upd (g.less p l).H p o = g.H := by
  funext b
  by_cases e : b = p
  · subst e; rw [upd_same, h]
  · rw [upd_ne e, less_ne e]
theorem Pre.less {g : G} {p : Addr} {l : List Addr} (hp : p ∈ g.ex) (hl : ∀ b ∈ l, b ∈ g.ex) : Pre g (g.less p l) where
  k := rfl
  cl := rfl
  xc := rfl
  xo := rfl
  α := ⟨[], by simp [G.less]⟩
  h := fun b u e n => by rw [less_ne (neP n (.inr hp))]; exact e
  p := fun a z => z.elim (fun z => .inl (.inl z)) fun z => .inl (.inr (hl a z))
theorem MemOk.less {g : G} (m : MemOk g) {p : Addr} {l : List Addr} (hp : p ∈ g.ex) (hl : ∀ b ∈ l, b ∈ g.ex) (hn : p ∉ l) : MemOk (g.less p l) where
  len := m.len
  nd := m.nd
  tr := fun a ha => by rw [less_ne (neM ha (m.exd p hp).1)]; exact m.tr a ha
  exd := fun a ha => ⟨(m.exd a (hl a ha)).1, by rw [less_ne (neM ha hn)]; exact (m.exd a (hl a ha)).2⟩
  cells := fun n a c x y => (m.cells n a c x y).pre (Pre.less hp hl) fun _ => less_ne (neM (List.mem_of_getElem? x) (m.exd p hp).1)
theorem Ext.less {g g' : G} (e : Ext g g') (m : MemOk g) {p : Addr} (h : g.H p = none) : Ext g (g'.less p g.ex) where
  k := e.k
  cl := e.cl
  xc := e.xc
  xo := e.xo
  α := e.α
  h := fun b u q n => by rw [less_ne (ne_of_none q h)]; exact e.h b u q n
  x := fun b hb => by rw [less_ne (neM hb (m.fresh h).2.1)]; exact e.x b hb
  s := fun _ h => h
  p := fun a z => by
    rcases z with z | z
    · exact e.p a (.inl z)
    · exact .inl (.inr z)
abbrev W0 : WX := fun _ _ _ _ => False
section
variable {X : Cx} {F : Fx} {W : WX} {elt tg iter c : Expr} {ifs : List Expr} {scope : Scope} {own : List (Str × Nat)} {fi : SemI} {a : Tgt} {t : SemT} {fe : Sem} {pos : Pos}
def SPt (X : Cx) (F : Fx) (W : WX) (ifs : List Expr) (t : SemT) : Prop := PTs X ifs (tT F W t)
theorem spt_nil : SPt X F W [] tYes := ⟨fun pins s σ H Q I ⟨g, ρ, e1, e2, m, v, o⟩ => pts_nil.run pins s σ H Q I (by subst e2; exact Out.here (a := true) o m rfl)⟩
theorem spt_one (h : ST X F W c t) : SPt X F W [c] t := pts_one h
/-- the turns of a comprehension -/
theorem lc_turns {own : List Nat} {σ : L2.St} {ρ : Env} {g1 : G} {J : It} {w : Wk} {Q : V → Hp → Prop} (e1 : g1.fx = F) (m1 : MemOk g1) (v : EnvOk g1 ρ σ) (rw1 : RepI g1 w J) (gd1 : w.gd.ok g1.μ) (hlen : w.ds.length ≤ sizeLine)
    (o1 : Out RepL (fun c d H' => W c d σ H') g1 (lcL w.gd a t fe (wipeD ρ own) w.ds g1.μ) fun xs H' => ∀ p, H' p = none → Q (.ref p) (upd H' p (.lst xs))) (d0 : Addr) (hD : g1.H d0 = none) :
    ∃ Wi : Nat → Nat → Hp → Prop, (∃ m, Wi 0 m (upd g1.H d0 (.lst []))) ∧ ∀ i m H, Wi i m H → (J.stop i H ∧ Q (.ref d0) H) ∨ (J.go i H ∧ ∃ Nx : Hp → Prop, (∀ H', Nx H' → ∃ m', m' < m ∧ Wi (i + 1) m' H') ∧ ∀ x H', J.yld i H x H' →
      gW F a own x (L2.wipe σ own) H' fun σ2 H2 => L2.wipe σ2 own = L2.wipe σ own ∧ tT F W0 t σ2 H2 fun b H3 => if b = true then tE F W0 fe σ2 H3 fun y H4 => ∃ acc, H4 d0 = some (.lst acc) ∧ acc.length < sizeLine ∧ Nx (upd H4 d0 (.lst (acc ++ [y]))) else Nx H3) := by
  rcases lcL_cases w.ds g1.μ (gd := w.gd) (a := a) (t := t) (e := fe) (ρ := wipeD ρ own) with hb | ⟨total, μf, htot⟩
  · rw [hb] at o1; exact o1.elim
  rw [htot] at o1
  have hle := lcL_len _ _ _ _ htot
  let Inv2 : Nat → Hp → Prop := fun i H => ∃ (g2 : G) (acc : List V) (done rest : List D), g2.H = H ∧ Ext g1 g2 ∧ MemOk g2 ∧ d0 ∈ g2.ex ∧ g2.H d0 = some (.lst acc) ∧ RepL g2 done acc ∧ w.gd.ok g2.μ ∧ i ≤ w.ds.length ∧ lcL w.gd a t fe (wipeD ρ own) (w.ds.drop i) g2.μ = .ok rest μf ∧ done ++ rest = total
  refine ⟨fun i n H => Inv2 i H ∧ i + n = w.ds.length, ⟨w.ds.length, ⟨g1.hold d0 (.lst []), [], [], total, rfl, Ext.hold m1 hD, m1.hold hD, List.mem_cons_self, upd_same, RepL.nil, gd1, Nat.zero_le _, htot, rfl⟩, by omega⟩, ?_⟩
  rintro i n H ⟨⟨g2, acc, done, rest, rfl, x2, m2, dex, hacc, racc, gd2, hi, hl, et⟩, en⟩
  cases hd : w.ds[i]? with
  | none =>
    have hl2 : w.ds.length ≤ i := List.getElem?_eq_none_iff.mp hd
    have hi2 : i = w.ds.length := by omega
    refine .inl ⟨(rw1 g2 x2 m2 gd2 i).2 hi2, ?_⟩
    rw [List.drop_of_length_le hl2, lcL] at hl
    cases hl
    rw [List.append_nil] at et
    subst et
    have dn : d0 ∉ g1.ex := (m1.fresh hD).2.1
    have q := o1 (g2.less d0 g1.ex) acc rfl (m2.less dex x2.s dn) (Ext.less x2 m1 hD) (racc.pre (Pre.less dex x2.s)) d0 (if_pos rfl)
    rwa [less_upd hacc] at q
  | some d =>
    obtain ⟨go, yl⟩ := (rw1 g2 x2 m2 gd2 i).1 d hd
    have hlt : i < w.ds.length := (List.getElem?_eq_some_iff.mp hd).1
    have ed : w.ds.drop i = d :: w.ds.drop (i + 1) := by
      rw [List.drop_eq_getElem_cons hlt]
      rw [List.getElem?_eq_getElem hlt] at hd
      rw [Option.some.inj hd]
    rw [ed, lcL] at hl
    refine .inr ⟨go, Inv2 (i + 1), fun H' h' => ⟨n - 1, by omega, h', by omega⟩, fun x H' hy => ?_⟩
    obtain ⟨g3, rfl, em, m3, x3, r3⟩ := yl x H' hy
    have x13 := x2.trans x3
    cases ea : a d (wipeD ρ own) with
    | none => rw [ea] at hl; cases hl
    | some ρ3 =>
      rw [ea] at hl
      refine ⟨g3, wipeD ρ own, ρ3, d, x13.fx.trans e1, rfl, m3, (v.mono x13).wipe own, r3, ea, fun σ3 v3 ew => ?_⟩
      refine ⟨by rw [ew, wipe_wipe], ?_⟩
      obtain ⟨k, μ4, ht, hl⟩ := bindB_ok hl
      rw [← em] at ht
      refine ⟨g3, ρ3, x13.fx.trans e1, rfl, m3, v3, ?_⟩
      rw [ht]
      intro g4 b em4 m4 x4 rb
      cases rb
      subst em4
      have dex3 : d0 ∈ g3.ex := x3.s d0 dex
      have dex4 : d0 ∈ g4.ex := x4.s d0 dex3
      have hacc4 : g4.H d0 = some (.lst acc) := by rw [x4.x d0 dex3, x3.x d0 dex]; exact hacc
      cases k with
      | false =>
        rw [if_neg Bool.false_ne_true] at hl ⊢
        obtain ⟨gd4, hl⟩ := lcG_ok hl
        exact ⟨g4, acc, done, rest, rfl, x13.trans x4, m4, dex4, hacc4, (racc.mono x3).mono x4, gd4, hlt, hl, et⟩
      | true =>
        rw [if_pos rfl] at hl ⊢
        obtain ⟨y, μ5, he, hl⟩ := bindB_ok hl
        obtain ⟨gd5, hl⟩ := lcG_ok hl
        obtain ⟨zs, μ6, hz, hl⟩ := bindB_ok hl
        cases hl
        refine ⟨g4, ρ3, x4.fx.trans (x13.fx.trans e1), rfl, m4, v3.mono x4, ?_⟩
        rw [he]
        intro g5 yv em5 m5 x5 ry
        subst em5
        have dex5 : d0 ∈ g5.ex := x5.s d0 dex4
        have hacc5 : g5.H d0 = some (.lst acc) := by rw [x5.x d0 dex4]; exact hacc4
        have rd : RepL g5 done acc := ((racc.mono x3).mono x4).mono x5
        refine ⟨acc, hacc5, ?_, g5.put d0 (.lst (acc ++ [yv])), acc ++ [yv], done ++ [y], zs, rfl, Ext.pok ((x13.trans x4).trans x5) m1 hD, m5.pok dex5, dex5, upd_same, (rd.app (RepL.cons ry RepL.nil)).pre (Pre.pok dex5), gd5, hlt, hz, by rw [List.append_assoc]; exact et⟩
        have h1 : done.length + (y :: zs).length ≤ w.ds.length := by rw [← List.length_append, et]; exact hle
        have h2 := rd.length
        simp only [List.length_cons] at h1
        omega
theorem sf_lc (hN : X.N.Nodup) (hc : X.calm = true) (hi : SI X F W tg iter fi) (ok : BlkOk X.N X.env.scope scope own)
    (hg : ∀ (s : Shared) (H : Hp) (C : Addr) (cl : List (Str × Addr)) (fp : List Addr), SGw (X.blk s H scope (compEnvC scope cl C X.env) fp) F tg a (own.map (·.2)))
    (ht : ∀ (s : Shared) (H : Hp) (C : Addr) (cl : List (Str × Addr)) (fp : List Addr), SPt (X.blk s H scope (compEnvC scope cl C X.env) fp) F W0 ifs t)
    (he : ∀ (s : Shared) (H : Hp) (C : Addr) (cl : List (Str × Addr)) (fp : List Addr), SE (X.blk s H scope (compEnvC scope cl C X.env) fp) F W0 elt fe) (hs : ∀ x, foldedSetIterable iter X.env x = pure x := by intro _; rfl) :
    SF X F W (.ListComp elt [⟨tg, iter, ifs, 0⟩] scope pos) (fLc fi a t fe (own.map (·.2))) :=
  PE.imp (pe_lc hc hN hi.pi ok hg ht he hs) fun σ H Q ⟨g, ρ, e1, e2, m, v, o⟩ => by
    refine ⟨g, ρ, e1, e2, m, v, o.of_bind fun w g1 J m1 x1 ⟨rw1, gd1⟩ o1 D hD => ?_⟩
    by_cases hlen : w.ds.length ≤ sizeLine
    · rw [if_pos hlen] at o1
      exact lc_turns (x1.fx.trans e1) m1 (v.mono x1) rw1 gd1 hlen o1 D hD
    · rw [if_neg hlen] at o1; exact o1.elim
/-- name = [..] on one line -/
theorem ss_setLc (i : Nat) {y : Str} {py spos : Pos} (bx : Bool) (hN : X.N.Nodup) (hc : X.calm = true) (hi : SI X F W tg iter fi) (ok : BlkOk X.N X.env.scope scope own)
    (hg : ∀ (s : Shared) (H : Hp) (C : Addr) (cl : List (Str × Addr)) (fp : List Addr), SGw (X.blk s H scope (compEnvC scope cl C X.env) fp) F tg a (own.map (·.2)))
    (ht : ∀ (s : Shared) (H : Hp) (C : Addr) (cl : List (Str × Addr)) (fp : List Addr), SPt (X.blk s H scope (compEnvC scope cl C X.env) fp) F W0 ifs t)
    (he : ∀ (s : Shared) (H : Hp) (C : Addr) (cl : List (Str × Addr)) (fp : List Addr), SE (X.blk s H scope (compEnvC scope cl C X.env) fp) F W0 elt fe)
    (hy : X.N[i]? = some y := by rfl) (hyl : X.env.scope.names.lookup y = some .local := by rfl) (hsw : swapsWith (.ListComp elt [⟨tg, iter, ifs, 0⟩] scope pos) (some (.Name y py)) spos.line X.env = pure true := by exact sw_true rfl rfl rfl (by decide +kernel)) (hs : ∀ x, foldedSetIterable iter X.env x = pure x := by intro _; rfl) :
    SS X F W (.Assign [.Name y py] (.ListComp elt [⟨tg, iter, ifs, 0⟩] scope pos) spos) (sSet i ((if bx = true then fBox else fTree) (fLc fi a t fe (own.map (·.2))))) :=
  PS.imp (ps_setLc hc hN hy hyl hsw hi.pi ok hg ht he hs) fun D σ H ⟨g, ρ, e1, e2, m, v, o⟩ => by
    have key : OutS D W g ((fi ρ g.μ).s ρ fun w μ => (if w.ds.length ≤ sizeLine then lcL w.gd a t fe (wipeD ρ (own.map (·.2))) w.ds μ else R.bad).s ρ fun ds μ => if bx = true then .next (ρ.set i (some (.obj μ.length))) (μ ++ [.lst ds]) else .next (ρ.set i (some (.lst ds))) μ) := by
      unfold sSet at o
      cases bx with
      | true =>
        rw [if_pos rfl] at o
        unfold fBox fLc at o
        cases h1 : fi ρ g.μ with
        | bad => rw [h1] at o; exact o
        | exc e μ => rw [h1] at o; exact o
        | ok w μ =>
          rw [h1] at o
          show OutS D W g ((if w.ds.length ≤ sizeLine then lcL w.gd a t fe (wipeD ρ (own.map (·.2))) w.ds μ else R.bad).s ρ _)
          have o : OutS D W g (((if w.ds.length ≤ sizeLine then lcL w.gd a t fe (wipeD ρ (own.map (·.2))) w.ds μ else R.bad).bind fun ds μ => R.ok (.obj μ.length) (μ ++ [.lst ds])).s ρ fun d μ => .next (ρ.set i (some d)) μ) := o
          cases h2 : (if w.ds.length ≤ sizeLine then lcL w.gd a t fe (wipeD ρ (own.map (·.2))) w.ds μ else R.bad) with
          | bad => rw [h2] at o; exact o
          | exc e μ => rw [h2] at o; exact o
          | ok ds μ => rw [h2] at o; exact o
      | false =>
        rw [if_neg Bool.false_ne_true] at o
        unfold fTree fLc at o
        cases h1 : fi ρ g.μ with
        | bad => rw [h1] at o; exact o
        | exc e μ => rw [h1] at o; exact o
        | ok w μ =>
          rw [h1] at o
          show OutS D W g ((if w.ds.length ≤ sizeLine then lcL w.gd a t fe (wipeD ρ (own.map (·.2))) w.ds μ else R.bad).s ρ _)
          have o : OutS D W g (((if w.ds.length ≤ sizeLine then lcL w.gd a t fe (wipeD ρ (own.map (·.2))) w.ds μ else R.bad).bind fun ds μ => R.ok (.lst ds) μ).s ρ fun d μ => .next (ρ.set i (some d)) μ) := o
          cases h2 : (if w.ds.length ≤ sizeLine then lcL w.gd a t fe (wipeD ρ (own.map (·.2))) w.ds μ else R.bad) with
          | bad => rw [h2] at o; exact o
          | exc e μ => rw [h2] at o; exact o
          | ok ds μ => rw [h2] at o; exact o
    refine ⟨g, ρ, e1, e2, m, v, key.ex v fun w g1 J m1 x1 ⟨rw1, gd1⟩ o1 D' hD => ?_⟩
    by_cases hlen : w.ds.length ≤ sizeLine
    · rw [if_pos hlen] at o1
      refine lc_turns (W := W) (Q := fun x H1 => D.nx (σ.set i (some x)) H1) (x1.fx.trans e1) m1 (v.mono x1) rw1 gd1 hlen (o1.ex (v.mono x1) fun ds g2 xs m2 x2 r2 o2 p hp => ?_) D' hD
      cases bx with
      | true =>
        rw [if_pos rfl] at o2
        exact o2 (g2.new p (.lst xs) (.lst ds)) _ rfl (new_lst m2 hp r2) (Ext.new m2 hp) (((v.mono x1).mono (x2.trans (Ext.new m2 hp))).set i (new_at g2 m2 p _ _))
      | false =>
        rw [if_neg Bool.false_ne_true] at o2
        exact o2 (g2.put p (.lst xs)) _ rfl (m2.put hp) (Ext.put hp (m2.fresh hp).2.1) (((v.mono x1).mono (x2.trans (Ext.put hp (m2.fresh hp).2.1))).set i (put_lst m2 hp r2))
    · rw [if_neg hlen] at o1; exact o1.elim
end
end Z

namespace Z
open PySem PySem.Spec PyProof.Rows L2

/-! ### what a def does -/
mutual
def D.lo (m : Nat) : D → Bool
  | .tup ds => D.los m ds
  | .lst ds => D.los m ds
  | .sq ds => D.los m ds
  | .dic _ ds => D.los m ds
  | .obj n => decide (n < m)
  | .exn _ _ ds => D.los m ds
  | _ => true
def D.los (m : Nat) : List D → Bool
  | [] => true
  | d :: ds => D.lo m d && D.los m ds
end
theorem D.los_all (m : Nat) : ∀ ds : List D, D.los m ds = ds.all (D.lo m)
  | [] => by simp [D.los]
  | d :: ds => by rw [D.los, D.los_all m ds, List.all_cons]
def Cell.below (m : Nat) : Cell → Bool
  | .lst ds => D.los m ds
  | .dic _ ds => D.los m ds
  | .diT _ ds => D.los m ds
  | .ins _ fs => D.los m (fs.map (·.2))
  | .fz d => D.lo m d
mutual
theorem rep_below {g : G} : ∀ (d : D) (v : V), Rep g d v → D.lo g.α.length d = true
  | .non, _, _ => rfl
  | .bl _, _, _ => rfl
  | .int _, _, _ => rfl
  | .str _, _, _ => rfl
  | .tup ds, _, h => by obtain ⟨a, xs, _, _, t⟩ := h; simpa [D.lo] using repL_below ds xs t
  | .lst ds, _, h => by obtain ⟨a, xs, _, _, t⟩ := h; simpa [D.lo] using repL_below ds xs t
  | .sq ds, _, h => by obtain ⟨a, xs, _, _, t⟩ := h; simpa [D.lo] using repL_below ds xs t
  | .dic ks ds, _, h => by obtain ⟨a, xs, _, _, _, t⟩ := h; simpa [D.lo] using repL_below ds xs t
  | .obj n, _, h => by obtain ⟨a, q, _⟩ := h; simpa [D.lo] using (List.getElem?_eq_some_iff.mp q).1
  | .exn c ks ds, _, h => by
    obtain ⟨a, dd, _, _, t⟩ := h
    rcases t with ⟨_, rfl, _⟩ | ⟨d, xs, _, _, _, _, t⟩
    · rfl
    · simpa [D.lo] using repL_below ds xs t
theorem repL_below {g : G} : ∀ (ds : List D) (xs : List V), RepL g ds xs → D.los g.α.length ds = true
  | [], _, _ => rfl
  | d :: ds, _, h => by
    obtain ⟨v, vs, _, r, t⟩ := h
    simp [D.los, rep_below d v r, repL_below ds vs t]
end
theorem cell_below {g : G} {a : Addr} : ∀ {c : Cell}, CellRep g a c → c.below g.α.length = true
  | .lst ds, ⟨xs, _, t⟩ => repL_below ds xs t
  | .dic ks ds, ⟨xs, _, _, t⟩ => repL_below ds xs t
  | .diT ks ds, ⟨xs, _, _, t⟩ => repL_below ds xs t
  | .ins c fs, ⟨C, dx, xs, _, _, _, t⟩ => repL_below _ xs t
  | .fz d, r => rep_below d _ r
mutual
theorem below_le {m n : Nat} (h : m ≤ n) : ∀ d : D, D.lo m d = true → D.lo n d = true
  | .non, _ => rfl
  | .bl _, _ => rfl
  | .int _, _ => rfl
  | .str _, _ => rfl
  | .tup ds, q => by simp only [D.lo] at q ⊢; exact belows_le h ds q
  | .lst ds, q => by simp only [D.lo] at q ⊢; exact belows_le h ds q
  | .sq ds, q => by simp only [D.lo] at q ⊢; exact belows_le h ds q
  | .dic ks ds, q => by simp only [D.lo] at q ⊢; exact belows_le h ds q
  | .obj i, q => by simp only [D.lo, decide_eq_true_eq] at q ⊢; omega
  | .exn c ks ds, q => by simp only [D.lo] at q ⊢; exact belows_le h ds q
theorem belows_le {m n : Nat} (h : m ≤ n) : ∀ ds : List D, D.los m ds = true → D.los n ds = true
  | [], _ => rfl
  | d :: ds, q => by
    simp only [D.los, Bool.and_eq_true] at q ⊢
    exact ⟨below_le h d q.1, belows_le h ds q.2⟩
end
theorem cbelow_le {m n : Nat} (h : m ≤ n) : ∀ {c : Cell}, c.below m = true → c.below n = true
  | .lst ds, q => belows_le h ds q
  | .dic ks ds, q => belows_le h ds q
  | .diT ks ds, q => belows_le h ds q
  | .ins c fs, q => belows_le h _ q
  | .fz d, q => below_le h d q
/-- cells of one's own are left behind -/
def G.cut (g : G) (m : Nat) : G := { g with α := g.α.take m, μ := g.μ.take m }
theorem take_get {α : Type} {l : List α} {m n : Nat} {a : α} (h : (l.take m)[n]? = some a) : l[n]? = some a ∧ n < m := by
  rw [List.getElem?_take] at h
  split at h
  · exact ⟨h, by assumption⟩
  · cases h
theorem get_take {α : Type} {l : List α} {m n : Nat} {a : α} (h : l[n]? = some a) (hn : n < m) : (l.take m)[n]? = some a := by
  rw [List.getElem?_take, if_pos hn]; exact h
theorem cut_P {g : G} {m : Nat} {a : Addr} (h : (g.cut m).P a) : g.P a := by
  rcases h with ⟨n, c, x, y, z⟩ | h
  · exact .inl ⟨n, c, (take_get x).1, (take_get y).1, z⟩
  · exact .inr h
mutual
theorem rep_cut {g : G} {m : Nat} : ∀ (d : D) (v : V), Rep g d v → D.lo m d = true → Rep (g.cut m) d v
  | .non, _, h, _ => h
  | .bl _, _, h, _ => h
  | .int _, _, h, _ => h
  | .str _, _, h, _ => h
  | .tup ds, _, h, q => by
    obtain ⟨a, xs, e, t, r⟩ := h
    refine ⟨a, xs, e, ?_, repL_cut ds xs r (by simpa [D.lo] using q)⟩
    rcases t with t | t
    · exact .inl ⟨t.1, fun z => t.2 (cut_P z)⟩
    · exact .inr t
  | .lst ds, _, h, q => by
    obtain ⟨a, xs, e, t, r⟩ := h
    exact ⟨a, xs, e, ⟨t.1, fun z => t.2 (cut_P z)⟩, repL_cut ds xs r (by simpa [D.lo] using q)⟩
  | .sq ds, _, h, q => by
    obtain ⟨a, xs, e, t, r⟩ := h
    refine ⟨a, xs, e, ?_, repL_cut ds xs r (by simpa [D.lo] using q)⟩
    rcases t with t | t
    · exact .inl ⟨t.1, fun z => t.2 (cut_P z)⟩
    · exact .inr t
  | .dic ks ds, _, h, q => by
    obtain ⟨a, xs, e, t, l, r⟩ := h
    exact ⟨a, xs, e, ⟨t.1, fun z => t.2 (cut_P z)⟩, l, repL_cut ds xs r (by simpa [D.lo] using q)⟩
  | .obj n, _, h, q => by
    obtain ⟨a, e, r⟩ := h
    exact ⟨a, get_take e (by simpa [D.lo] using q), r⟩
  | .exn c ks ds, _, h, q => by
    obtain ⟨a, dd, e, r, t⟩ := h
    refine ⟨a, dd, e, r, t.imp id ?_⟩
    rintro ⟨d, xs, h1, h2, h3, h4, h5⟩
    exact ⟨d, xs, h1, h2, fun z => h3 (cut_P z), h4, repL_cut ds xs h5 (by simpa [D.lo] using q)⟩
theorem repL_cut {g : G} {m : Nat} : ∀ (ds : List D) (vs : List V), RepL g ds vs → D.los m ds = true → RepL (g.cut m) ds vs
  | [], _, h, _ => h
  | d :: ds, _, h, q => by
    obtain ⟨v, vs, e, r, t⟩ := h
    simp only [D.los, Bool.and_eq_true] at q
    exact ⟨v, vs, e, rep_cut d v r q.1, repL_cut ds vs t q.2⟩
end
theorem cell_cut {g : G} {m : Nat} {a : Addr} : ∀ {c : Cell}, CellRep g a c → c.below m = true → CellRep (g.cut m) a c
  | .lst ds, ⟨xs, x, r⟩, q => ⟨xs, x, repL_cut ds xs r q⟩
  | .dic ks ds, ⟨xs, x, l, r⟩, q => ⟨xs, x, l, repL_cut ds xs r q⟩
  | .diT ks ds, ⟨xs, x, l, r⟩, q => ⟨xs, x, l, repL_cut ds xs r q⟩
  | .ins c fs, ⟨C, dx, xs, k, x, l, r⟩, q => ⟨C, dx, xs, k, x, l, repL_cut _ xs r q⟩
  | .fz d, r, q => rep_cut d _ r q
theorem MemOk.cut {g : G} (m : MemOk g) {n : Nat} (h : ∀ (i : Nat) (c : Cell), i < n → g.μ[i]? = some c → c.below n = true) : MemOk (g.cut n) where
  len := by simp [G.cut, m.len]
  nd := m.nd.sublist (List.take_sublist n g.α)
  tr := fun a ha => m.tr a (List.mem_of_mem_take ha)
  exd := fun a ha => ⟨fun z => (m.exd a ha).1 (List.mem_of_mem_take z), (m.exd a ha).2⟩
  cells := fun i a c x y => cell_cut (m.cells i a c (take_get x).1 (take_get y).1) (h i c (take_get x).2 (take_get y).1)
theorem Ext.cut {g g' : G} (e : Ext g g') {n : Nat} (h : g.α.length ≤ n) : Ext g (g'.cut n) where
  k := e.k
  cl := e.cl
  xc := e.xc
  xo := e.xo
  α := by
    obtain ⟨β, q⟩ := e.α
    refine ⟨β.take (n - g.α.length), ?_⟩
    show g'.α.take n = _
    rw [q, List.take_append, List.take_of_length_le h]
  h := e.h
  x := e.x
  s := e.s
  p := fun a z => e.p a (cut_P z)
/-- the memory that one tells of, of the memory there is: μ0 the one at the entry -/
structure Tr (μ0 μ' μs : Mem) : Prop where
  le : μ0.length ≤ μs.length
  eq : μ'.take μs.length = μs
  low : μ' = μs ∨ ∀ (i : Nat) (c : Cell), μs[i]? = some c → μ0[i]? = some c ∨ c.below μs.length = true
theorem Tr.refl {μ0 μ : Mem} (h : μ0.length ≤ μ.length) : Tr μ0 μ μ := ⟨h, List.take_length, .inl rfl⟩
theorem Tr.same {μ0 μ' : Mem} {ex : List Cell} (h : μ' = μ0 ++ ex) : Tr μ0 μ' μ0 := ⟨Nat.le_refl _, by rw [h, List.take_left], .inr fun i c q => .inl q⟩
def Exl (m : Nat) (e : Ex) : Bool := D.los m (e.fs.map (·.2))
/-- what is told of a body's end -/
inductive Ref (μ0 : Mem) : R D → RS → Prop
  | bad {r : RS} : Ref μ0 .bad r
  | ret {d : D} {μ' μs : Mem} (t : Tr μ0 μ' μs) (b : μ' = μs ∨ D.lo μs.length d = true) : Ref μ0 (.ok d μs) (.ret d μ')
  | nx {ρ : Env} {μ' μs : Mem} (t : Tr μ0 μ' μs) : Ref μ0 (.ok .non μs) (.next ρ μ')
  | exc {e : Ex} {ρ : Env} {μ' μs : Mem} (t : Tr μ0 μ' μs) (b : μ' = μs ∨ Exl μs.length e = true) : Ref μ0 (.exc e μs) (.exc e ρ μ')
theorem Tr.cut {g g' : G} {μs : Mem} (m : MemOk g) (m' : MemOk g') (x : Ext g g') (t : Tr g.μ g'.μ μs) : ∃ g2 : G, g2.μ = μs ∧ g2.H = g'.H ∧ MemOk g2 ∧ Ext g g2 ∧ (g'.μ = μs → g2 = g') ∧ (g2 = g' ∨ g2 = g'.cut μs.length) := by
  rcases t.low with e | low
  · exact ⟨g', e, rfl, m', x, fun _ => rfl, .inl rfl⟩
  · by_cases e : g'.μ = μs
    · exact ⟨g', e, rfl, m', x, fun _ => rfl, .inl rfl⟩
    · refine ⟨g'.cut μs.length, t.eq, rfl, m'.cut fun i c hi hc => ?_, x.cut (by rw [m.len]; exact t.le), fun z => (e z).elim, .inr rfl⟩
      have hc2 : μs[i]? = some c := by rw [← t.eq]; exact get_take hc hi
      rcases low i c hc2 with q | q
      · obtain ⟨a, _, cr⟩ := m.at q
        exact cbelow_le (by rw [m.len]; exact t.le) (cell_below cr)
      · exact q
theorem ExRep.cut {g : G} {m : Nat} {e : Ex} {C : Value} {dd : Option Addr} (h : ExRep g e C dd) (b : Exl m e = true) : ExRep (g.cut m) e C dd := by
  obtain ⟨c, h1, h2, h3⟩ := h
  refine ⟨c, h1, h2, h3.imp id fun ⟨d, xs, q1, q2, q3, q4, q5⟩ => ⟨d, xs, q1, q2, fun z => q3 (cut_P z), q4, repL_cut _ xs q5 b⟩⟩
/-- from a body's end to what is told -/
theorem Ref.out {g : G} {r : R D} {rs : RS} {Q : VK} {E : XK} (m : MemOk g) (h : Ref g.μ r rs) (o : Out Rep E g r Q) : OutS { nx := fun _ H' => Q .non H', rt := Q } (fun c d _ H' => E c d H') g rs := by
  cases h with
  | bad => exact o.elim
  | @ret d μ' μs t b =>
    intro g1 v e m1 x r1
    subst e
    obtain ⟨g2, e2, eH, m2, x2, same, eg⟩ := Tr.cut m m1 x t
    rw [← eH]
    refine o g2 v e2 m2 x2 ?_
    rcases eg with eg | eg
    · rw [eg]; exact r1
    · rcases b with b | b
      · rw [same b]; exact r1
      · rw [eg]; exact rep_cut d v r1 b
  | @nx ρ μ' μs t =>
    intro g1 σ e m1 x v
    subst e
    obtain ⟨g2, e2, eH, m2, x2, same, eg⟩ := Tr.cut m m1 x t
    rw [← eH]
    exact o g2 .non e2 m2 x2 rfl
  | @exc ex ρ μ' μs t b =>
    intro g1 σ C dd e m1 x v w
    subst e
    obtain ⟨g2, e2, eH, m2, x2, same, eg⟩ := Tr.cut m m1 x t
    rw [← eH]
    refine o g2 C dd e2 m2 x2 ?_
    rcases eg with eg | eg
    · rw [eg]; exact w
    · rcases b with b | b
      · rw [same b]; exact w
      · rw [eg]; exact ExRep.cut w b
abbrev DFn := List D → Mem → R D
def spD (F : Fx) (n : Nat) (S : DFn) : Sp := fun vs H Q E => ∃ (g : G) (ds : List D), g.fx = F ∧ g.H = H ∧ MemOk g ∧ RepL g ds vs ∧ ds.length = n ∧ Out Rep E g (S ds g.μ) Q
def startD (N : Nat) (ds : List D) : Env := ds.map some ++ List.replicate (N - ds.length) none
theorem start_ok {g : G} {N : List Str} {ds : List D} {vs : List V} (r : RepL g ds vs) : EnvOk g (startD N.length ds) (L2.start N vs) := by
  have hl := r.length
  refine ⟨by simp [startD, L2.start, hl], fun i d h => ?_⟩
  unfold startD at h
  by_cases hi : i < ds.length
  · rw [List.getElem?_append_left (by simpa using hi), List.getElem?_map] at h
    cases e : ds[i]? with
    | none => rw [e] at h; cases h
    | some d' =>
      rw [e] at h
      have e' : d' = d := by simpa using h
      subst e'
      obtain ⟨v, hv, rv⟩ := r.get' e
      refine ⟨v, ?_, rv⟩
      unfold L2.start
      rw [List.getElem?_append_left (by rw [List.length_map, ← hl]; exact hi), List.getElem?_map, hv]
      rfl
  · rw [List.getElem?_append_right (by simpa using hi)] at h
    have := List.mem_of_getElem? h
    rw [List.mem_replicate] at this
    cases this.2
/-- a def of the text, by its body -/
theorem fnD {P : Program} {w : World} {K : PySem.W.Frag} {mg : Str → Option Value} {base : Heap} {x qual : Str} {st : Stmt} {f : Addr} {fd : FuncData} {N ps : List Str} {k n : Nat} {F : Fx} {S : DFn} {b : SemS} (Fn : Fun K x qual st f fd) (sc : FnScope N ps (defScope st)) (hn : ps.length = n)
    (body : ∀ (cdv : Value) (A : Around) (outer : List PySem.Env) (s : Shared) (H : Hp) (E : XK), Room k (A.deeper (envOfC qual (defScope st) s.heap.objs.size f cdv)) → SSs (cxOf (L2.CX P w) P w K mg base N qual (defScope st) f cdv A outer s H E) F (fun c d _ H' => E c d H') (defBody st) b)
    (told : ∀ (ds : List D) (μ : Mem), ds.length = n → Ref μ (S ds μ) (b (startD N.length ds) μ)) : FnOk P w K mg base (L2.CX P w) (k + 1) f fd ps (spD F n S) :=
  Fn.okX sc (fun vs H Q E ⟨g, ds, _, _, _, r, l, _⟩ => by rw [← r.length, l, hn]) fun cdv A outer s H vs Q E hr ⟨g, ds, e1, e2, m, r, l, o⟩ =>
    ⟨_, body cdv A outer s H E hr, g, startD N.length ds, e1, e2, m, start_ok r, (told ds g.μ l).out m o⟩
theorem fnDD {P : Program} {w : World} {K : PySem.W.Frag} {mg : Str → Option Value} {base : Heap} {x qual : Str} {params : Arguments} {bd : List Stmt} {scope : Scope} {dvs : List V} {kws : List (Str × V)} {f : Addr} {fd : FuncData} {N ps : List Str} {k n : Nat} {F : Fx} {S : DFn} {b : SemS} (Fn : FunD K x qual params bd scope dvs kws f fd) (sc : FnScope N ps scope) (hn : ps.length = n)
    (body : ∀ (cdv : Value) (A : Around) (outer : List PySem.Env) (s : Shared) (H : Hp) (E : XK), Room k (A.deeper (envOfC qual scope s.heap.objs.size f cdv)) → SSs (cxOf (L2.CX P w) P w K mg base N qual scope f cdv A outer s H E) F (fun c d _ H' => E c d H') bd b)
    (told : ∀ (ds : List D) (μ : Mem), ds.length = n → Ref μ (S ds μ) (b (startD N.length ds) μ)) : FnOk P w K mg base (L2.CX P w) (k + 1) f fd ps (spD F n S) :=
  Fn.ok sc (fun vs H Q E ⟨g, ds, _, _, _, r, l, _⟩ => by rw [← r.length, l, hn]) fun cdv A outer s H vs Q E hr ⟨g, ds, e1, e2, m, r, l, o⟩ =>
    ⟨_, body cdv A outer s H E hr, g, startD N.length ds, e1, e2, m, start_ok r, (told ds g.μ l).out m o⟩
/-! ### calls -/
structure Cal (P : Program) (w : World) (K : PySem.W.Frag) (mg : Str → Option Value) (base : Heap) (F : Fx) (L : Nat) (x : Str) (n : Nat) (dds : List D) (S : DFn) : Prop where
  ex : ∃ (f : Addr) (fd : FuncData) (ps : List Str) (dvs : List V) (dsv : List Value), FnOk P w K mg base (L2.CX P w) L f fd ps (spD F n S) ∧ mg x = some (.ref f) ∧ PySem.W.keepIn K (.ref f) = true ∧ Binds K fd ps dsv ∧ Vals dvs dsv ∧ ∀ g : G, RepL g dds dvs
def fCall (S : DFn) (n : Nat) (dds : List D) (es : SemA) : Sem := fun ρ μ => (es ρ μ).bind fun ds μ => if (ds ++ dds).length = n then S (ds ++ dds) μ else .bad
section
variable {X : Cx} {F : Fx} {W : WX} {e : Expr} {es : List Expr} {fa : SemA} {x : Str} {p pos : Pos} {L n : Nat} {dds : List D} {S : DFn}
theorem run_cal {pins : List (Addr × Obj)} {σ : L2.St} {H : Hp} {s : Shared} {Q : VK} {us dsv : List Value} {vs dvs : List V} {f : Addr} {fd : FuncData} {ps : List Str} {sp : Sp} (Fn : FnOk X.prog X.w X.K X.mg X.base (L2.CX X.prog X.w) L f fd ps sp) (hr : Room L X.A) (hb : Binds X.K fd ps dsv) (hd : Vals dvs dsv) (tk : Takes X W)
    (I : Inv X pins σ H s) (r : Vals vs us) (h : sp (vs ++ dvs) H Q (WE W σ)) : wpAny (model X.prog X.w) X.A (call (.ref f) us) (EP X pins σ Q) X.xe s := by
  have r2 : Vals (vs ++ dvs) (us ++ dsv) := r.append hd
  have hl : (us ++ dsv).length = ps.length := by rw [← r2.length]; exact Fn.len _ _ _ _ h
  refine wpAny_call (codeAny_mono (Fn.run X.A X.stack s H ⟨us, []⟩ (us ++ dsv) (vs ++ dvs) Q (WE W σ) hr I.env0 (hb s us I.kIn hl) r2 h) fun r s' hq => ?_)
  cases r with
  | error e => exact passAt tk σ pins H s e s' I hq
  | ok fl =>
    cases fl with
    | ret u => exact I.after hq
    | next => exact False.elim hq
    | brk => exact False.elim hq
    | cont => exact False.elim hq
theorem se_call (c : Cal X.prog X.w X.K X.mg X.base F L x n dds S) (hr : Room L X.A) (tk : Takes X W) (ha : SA X F W (e :: es) fa) (hg : Gl X x := by rfl) (hdb : (x == ("__debug__" : Str)) = false := by decide)
    (he : starEach (e :: es) X.env = (false, eval e X.env) :: starEach es X.env := by rfl) (hpl : (backTo pos (starEach es X.env)).any (·.1) = false := by rfl) : SE X F W (.Call (.Name x p) (e :: es) [] pos) (fCall S n dds fa) := by
  obtain ⟨f, fd, ps, dvs, dsv, Fn, hm, hk, hb, hd, hrep⟩ := c.ex
  refine ⟨fun pins s σ H Q I h => ?_⟩
  have h2 : tA F W fa σ H (fun vs H1 => spD F n S (vs ++ dvs) H1 Q (WE W σ)) := tW.bind h fun g ρ ds vs e1 m v r o => by
    by_cases hl : (ds ++ dds).length = n
    · rw [if_pos hl] at o
      exact ⟨g, ds ++ dds, e1, rfl, m, r.app (hrep g), hl, o⟩
    · rw [if_neg hl] at o; exact o.elim
  refine wpAny_Call_Name_kw (ld_glob I hg hm ?_ hdb)
  refine PySem.W.callWith_K (h₀ := X.base) I.ok.mod.kin hk (thn (ha.run pos pins s σ H _ I h2) fun us s1 ⟨vs, H1, I1, r, q⟩ => ⟨I1.kIn, ?_⟩) he hpl
  exact run_cal Fn hr hb hd tk I1 r q
theorem se_call0 (c : Cal X.prog X.w X.K X.mg X.base F L x n dds S) (hr : Room L X.A) (tk : Takes X W) (hg : Gl X x := by rfl) (hdb : (x == ("__debug__" : Str)) = false := by decide) : SE X F W (.Call (.Name x p) [] [] pos) (fCall S n dds fNil) := by
  obtain ⟨f, fd, ps, dvs, dsv, Fn, hm, hk, hb, hd, hrep⟩ := c.ex
  refine ⟨fun pins s σ H Q I ⟨g, ρ, e1, e2, m, v, o⟩ => ?_⟩
  subst e2
  have h2 : spD F n S ([] ++ dvs) g.H Q (WE W σ) := by
    have o : Out Rep (fun c d H' => W c d σ H') g (if ([] ++ dds).length = n then S ([] ++ dds) g.μ else .bad) Q := o
    by_cases hl : ([] ++ dds).length = n
    · rw [if_pos hl] at o
      exact ⟨g, [] ++ dds, e1, rfl, m, hrep g, hl, o⟩
    · rw [if_neg hl] at o; exact o.elim
  refine wpAny_Call_Name_kw (ld_glob I hg hm ?_ hdb)
  exact PySem.W.callWith_K0 I.kIn hk (run_cal (us := []) Fn hr hb hd tk I .nil h2)
end
end Z

namespace Z
open PySem PySem.Spec PyProof.Rows L2

/-! ### items and slices -/
def lookD : List Key → List D → Key → Option D
  | k :: ks, d :: ds, j => if k = j then some d else lookD ks ds j
  | _, _, _ => none
theorem lookD_rep {g : G} {k : Key} : ∀ {ks : List Key} {ds : List D} {xs : List V}, ks.length = xs.length → RepL g ds xs → (lookD ks ds k = none ∧ valV (ks.zip xs) k = none) ∨ ∃ d x, lookD ks ds k = some d ∧ valV (ks.zip xs) k = some x ∧ Rep g d x
  | [], _, [], _, _ => .inl ⟨by cases ‹List D› <;> rfl, rfl⟩
  | j :: ks, [], _, h, r => by cases r; simp at h
  | j :: ks, d :: ds, _, h, r => by
    obtain ⟨v, vs, rfl, r1, r2⟩ := r
    by_cases e : j = k
    · subst e
      exact .inr ⟨d, v, by simp [lookD], by rw [List.zip_cons_cons, valV_pos rfl], r1⟩
    · have q := lookD_rep (g := g) (k := k) (ks := ks) (ds := ds) (xs := vs) (by simpa using h) r2
      simp only [lookD, e, if_false, List.zip_cons_cons]
      rw [valV_neg (show ¬ (j, v).1 = k from e)]
      exact q
  | [], _, _ :: _, h, _ => by simp at h
def dIx (x i : D) (μ : Mem) : R D := match x, i with
  | .str z, .int i => if z.length ≤ sizeLine then R.ofP μ ((atI z.cps.toList i).map fun c => .str ⟨#[c]⟩) else .bad
  | .tup ds, .int i => R.ofP μ (atI ds i)
  | x, i => match lstD μ x with
    | some ds => (match i with
      | .int j => R.ofP μ (atI ds j)
      | _ => .bad)
    | none => match dicD μ x, keyD i with
      | some (ks, ds), some k => R.ofP μ (lookD ks ds k)
      | _, _ => .bad
theorem cm_ix (x y : D) (μ : Mem) : (dIx x y μ).calm := by
  unfold dIx
  split
  · split
    · exact R.calm_ofP _ _
    · trivial
  · exact R.calm_ofP _ _
  · split
    · split
      · exact R.calm_ofP _ _
      · trivial
    · split
      · exact R.calm_ofP _ _
      · trivial
theorem atI_rep {g : G} {ds : List D} {xs : List V} {i : Int} {d : D} (r : RepL g ds xs) (h : atI ds i = some d) : ∃ x, atI xs i = some x ∧ Rep g d x := by
  unfold atI at h ⊢
  rw [← r.length]
  cases e : ixN ds.length i with
  | none => rw [e] at h; cases h
  | some j =>
    rw [e] at h
    exact r.get' h
section
variable {X : Cx} {F : Fx} {W : WX} {a b e : Expr} {fa fb : Sem} {pos : Pos}
def rIxK : R2 := fun x y H Q => ∃ p v, x = .ref p ∧ DGet H p y (some v) ∧ Q v H
theorem ix_dict (hu : X.A.units + 1 < cLine) : IxR X rIxK := by
  intro value slice pins s σ H x y v u Q I rx ry h hs
  obtain ⟨p, w, rfl, dg, q⟩ := h
  obtain rfl : v = Value.ref p := rx
  exact tail_any (dict_typeIs I dg) PySem.F.slot_dict_getitem.lookup (d_getItem hu I dg ry fun w' s3 I3 rw' => ⟨w, H, I3, rw', q⟩) hs
theorem ix_any (hF : F.K = X.K) (hu : X.A.units + 70 < cLine) : IxR X (rD2 F dIx) := by
  intro value slice pins s σ H x y v u Q I rx ry h hs
  obtain ⟨g, a, b, e, rfl, m, ra, rb, o⟩ := h
  have eK := fxK e hF
  unfold dIx at o
  split at o
  · cases ra; cases rb
    split at o
    · rename_i hl
      cases ec : atI _ _ with
      | none => rw [ec] at o; exact o.elim
      | some c =>
        rw [ec] at o
        exact ix_str value slice pins s σ g.H _ _ v u Q I rx ry ⟨_, _, c, rfl, rfl, hl, ec, Out.here (a := D.str ⟨#[c]⟩) o m rfl⟩ hs
    · exact o.elim
  · cases rb
    obtain ⟨d, ed, o⟩ := Out.ofP o
    obtain ⟨p, xs, rfl, q1, t⟩ := ra
    obtain ⟨w, hw, rw'⟩ := atI_rep t ed
    exact ix_tup value slice pins s σ g.H _ _ v u Q I rx ry ⟨p, xs, _, w, rfl, rfl, eK ▸ q1.sq, hw, o.here m rw'⟩ hs
  · split at o
    · rename_i ds hl
      split at o
      · cases rb
        obtain ⟨d, ed, o⟩ := Out.ofP o
        obtain ⟨p, xs, rfl, q1, t⟩ := lstD_rep m ra hl
        obtain ⟨w, hw, rw'⟩ := atI_rep t ed
        exact ix_list value slice pins s σ g.H _ _ v u Q I rx ry ⟨p, xs, _, w, rfl, rfl, eK ▸ q1, hw, o.here m rw'⟩ hs
      · exact o.elim
    · split at o
      · rename_i ks ds k h1 h2
        obtain ⟨d, ed, o⟩ := Out.ofP o
        obtain ⟨p, xs, rfl, q1, l, t⟩ := dicD_rep m ra h1
        have e3 := keyD_rep rb h2
        subst e3
        rcases lookD_rep (k := k) l t with ⟨q, _⟩ | ⟨d', w, q, hv, rw'⟩
        · rw [q] at ed; cases ed
        · rw [q] at ed; cases ed
          exact ix_dict (by omega) value slice pins s σ g.H _ _ v u Q I rx ry ⟨p, w, rfl, .inl ⟨_, _, q1, rfl, hv.symm⟩, o.here m rw'⟩ hs
      · exact o.elim
def fIx (a b : Sem) : Sem := fOp2 dIx a b
theorem se_ix (hF : F.K = X.K) (hu : X.A.units + 70 < cLine) (ha : SE X F W a fa) (hb : SE X F W b fb) (hs : PlainIx b := by exact fun _ _ => rfl) : SE X F W (.Subscript a b pos) (fOp2 dIx fa fb) :=
  PE.imp (pe_ix (ix_any hF hu) ha hb hs) fun σ H Q h => tW.bind h fun g ρ x v e m w r o =>
    ⟨g, ρ, e, rfl, m, w, o.bind fun y g1 u m1 x1 r1 o1 => ⟨g1, x, y, x1.fx.trans e, rfl, m1, r.mono x1, r1, o1.calm (cm_ix _ _ _)⟩⟩

/-! slices -/
abbrev SemO := Env → Mem → R (Option Int)
def SO (X : Cx) (F : Fx) (W : WX) (e : Option Expr) (f : SemO) : Prop := PO X e (tW (fun _ (a b : Option Int) => b = a) F W f)
def oNone : SemO := fun _ μ => .ok none μ
def oSome (f : Sem) : SemO := fun ρ μ => (f ρ μ).bind fun d μ => match d with
  | .int i => .ok (some i) μ
  | _ => .bad
theorem PO.imp {e : Option Expr} {t t' : TO} (h : PO X e t) (k : ∀ σ H Q, t' σ H Q → t σ H Q) : PO X e t' := ⟨fun pins s σ H Q I w => h.run pins s σ H Q I (k σ H Q w)⟩
theorem so_none : SO X F W none oNone := PO.imp po_none fun σ H Q ⟨g, ρ, _, e2, m, _, o⟩ => by subst e2; exact Out.here (a := none) o m rfl
theorem so_some (h : SE X F W e fa) : SO X F W (some e) (oSome fa) := PO.imp (po_some h) fun σ H Q h => tW.bind h fun g ρ d v e m w r o => by
  cases d with
  | int i => exact ⟨i, r, Out.here (a := some i) o m rfl⟩
  | _ => exact o.elim
def cutD (ds : List D) (lo hi : Option Int) : List D := (ds.drop (HT.sIx ds.length 0 lo)).take (HT.sIx ds.length ds.length hi - HT.sIx ds.length 0 lo)
theorem cut_rep {g : G} {ds : List D} {xs : List V} (r : RepL g ds xs) (lo hi : Option Int) : RepL g (cutD ds lo hi) (cutV xs lo hi) := by
  unfold cutD cutV
  rw [← r.length]
  exact (r.drop _).take _
def dSl (x : D) (lo hi : Option Int) (μ : Mem) : R D := match x with
  | .str z => if z.length ≤ sizeLine then .ok (.str (cutS z lo hi)) μ else .bad
  | .tup ds => if HT.sIx ds.length 0 lo = 0 ∧ HT.sIx ds.length ds.length hi = ds.length then .bad else .ok (.tup (cutD ds lo hi)) μ
  | x => match lstD μ x with
    | some ds => .ok (.lst (cutD ds lo hi)) μ
    | none => .bad
def fSl (a : Sem) (lo hi : SemO) : Sem := fun ρ μ => (a ρ μ).bind fun x μ => (lo ρ μ).bind fun l μ => (hi ρ μ).bind fun h μ => dSl x l h μ
def rSlD (F : Fx) : V → Option Int → Option Int → Hp → VK → Prop := fun x lo hi H Q => ∃ (g : G) (a : D), g.fx = F ∧ g.H = H ∧ MemOk g ∧ Rep g a x ∧ Out Rep (fun _ _ _ => False) g (dSl a lo hi g.μ) Q
theorem cm_sl (x : D) (lo hi : Option Int) (μ : Mem) : (dSl x lo hi μ).calm := by
  unfold dSl
  split
  · split <;> trivial
  · split <;> trivial
  · split <;> trivial
theorem sl_any (hF : F.K = X.K) : SlR X (rSlD F) := by
  intro pins s σ H x v vl vu lo hi sl Q I rx hs pl pu h
  obtain ⟨g, a, e, rfl, m, ra, o⟩ := h
  have eK := fxK e hF
  unfold dSl at o
  split at o
  · cases ra
    split at o
    · exact sl_str pins s σ g.H _ v vl vu lo hi sl Q I rx hs pl pu ⟨_, rfl, by assumption, o.here m rfl⟩
    · exact o.elim
  · rename_i ds
    obtain ⟨p, xs, rfl, q1, t⟩ := ra
    split at o
    · exact o.elim
    · rename_i hc
      exact sl_tup pins s σ g.H _ v vl vu lo hi sl Q I rx hs pl pu ⟨p, xs, rfl, eK ▸ q1.sq, by rw [← t.length]; exact hc, fun w hw => out_tup o m (cut_rep t lo hi) w hw⟩
  · split at o
    · rename_i ds hl
      obtain ⟨p, xs, rfl, q1, t⟩ := lstD_rep m ra hl
      exact sl_list pins s σ g.H _ v vl vu lo hi sl Q I rx hs pl pu ⟨p, xs, rfl, eK ▸ q1, fun w hw => out_lst o m (cut_rep t lo hi) w hw⟩
    · exact o.elim
theorem se_sl {lo hi : Option Expr} {fl fh : SemO} {p2 : Pos} (hF : F.K = X.K) (ha : SE X F W a fa) (hl : SO X F W lo fl) (hh : SO X F W hi fh) : SE X F W (.Subscript a (.Slice lo hi none p2) pos) (fSl fa fl fh) :=
  PE.imp (pe_slice (sl_any hF) ha hl hh) fun σ H Q h => tW.bind h fun g ρ x v e m w r o =>
    ⟨g, ρ, e, rfl, m, w, o.bind fun l g1 l' m1 x1 r1 o1 => ⟨g1, ρ, x1.fx.trans e, rfl, m1, w.mono x1, o1.bind fun u g2 u' m2 x2 r2 o2 => by
      cases r1; cases r2
      exact ⟨g2, x, x2.fx.trans (x1.fx.trans e), rfl, m2, (r.mono x1).mono x2, o2.calm (cm_sl _ _ _ _)⟩⟩⟩
/-- a slice of a list, as a new list of one's own -/
def fSlL (a : Sem) (lo hi : SemO) : SemA := fun ρ μ => (a ρ μ).bind fun x μ => (lo ρ μ).bind fun l μ => (hi ρ μ).bind fun h μ => match lstD μ x with
  | some ds => .ok (cutD ds l h) μ
  | none => .bad
theorem sf_sl {lo hi : Option Expr} {fl fh : SemO} {p2 : Pos} (hF : F.K = X.K) (ha : SE X F W a fa) (hl : SO X F W lo fl) (hh : SO X F W hi fh) : SF X F W (.Subscript a (.Slice lo hi none p2) pos) (fSlL fa fl fh) :=
  PE.imp (pe_slice sl_list ha hl hh) fun σ H Q ⟨g, ρ, e1, e2, m, v, o⟩ => by
    refine ⟨g, ρ, e1, e2, m, v, Out.of_bind o fun x g1 xv m1 x1 r1 o1 => ?_⟩
    refine ⟨g1, ρ, x1.fx.trans e1, rfl, m1, v.mono x1, Out.of_bind o1 fun l g2 l' m2 x2 r2 o2 => ?_⟩
    refine ⟨g2, ρ, x2.fx.trans (x1.fx.trans e1), rfl, m2, (v.mono x1).mono x2, Out.of_bind o2 fun u g3 u' m3 x3 r3 o3 => ?_⟩
    cases r2; cases r3
    have eK := fxK (x3.fx.trans (x2.fx.trans (x1.fx.trans e1))) hF
    have rx := ((r1.mono x2).mono x3)
    cases hl : lstD g3.μ x with
    | none => simp only [hl] at o3; exact o3.elim
    | some ds =>
      simp only [hl] at o3
      obtain ⟨p, xs, rfl, q1, t⟩ := lstD_rep m3 rx hl
      exact ⟨p, xs, rfl, eK ▸ q1, fun w hw => Out.here (a := cutD ds l u) o3 m3 (cut_rep t l u) w hw⟩
/-- xs + ys, xs * k as new lists of one's own -/
def fCat (a b : Sem) : SemA := fun ρ μ => (a ρ μ).bind fun x μ => (b ρ μ).bind fun y μ => match lstW μ x, lstW μ y with
  | some ds, some es => if ds.length + es.length ≤ sizeLine then .ok (ds ++ es) μ else .bad
  | _, _ => .bad
def fRep (a b : Sem) : SemA := fun ρ μ => (a ρ μ).bind fun x μ => (b ρ μ).bind fun y μ => match lstW μ x, y with
  | some ds, .int k => if -(2 ^ 63) ≤ k ∧ k < 2 ^ 63 ∧ ds.length * k.toNat ≤ sizeLine then .ok (List.replicate k.toNat ds).flatten μ else .bad
  | _, _ => .bad
theorem sf_cat (ha : SE X F W a fa) (hb : SE X F W b fb) : SF X F W (.BinOp a .Add b pos) (fCat fa fb) :=
  PE.imp (pe_op op_cat ha hb) fun σ H Q ⟨g, ρ, e1, e2, m, v, o⟩ => by
    refine ⟨g, ρ, e1, e2, m, v, Out.of_bind o fun x g1 xv m1 x1 r1 o1 => ?_⟩
    refine ⟨g1, ρ, x1.fx.trans e1, rfl, m1, v.mono x1, Out.of_bind o1 fun y g2 yv m2 x2 r2 o2 => ?_⟩
    split at o2
    · rename_i ds es h1 h2
      split at o2
      · obtain ⟨p, xs, rfl, q1, t1⟩ := lstW_rep m2 (r1.mono x2) h1
        obtain ⟨p2, ys, rfl, q2, t2⟩ := lstW_rep m2 r2 h2
        exact ⟨p, p2, xs, ys, rfl, rfl, q1, q2, by rw [← t1.length, ← t2.length]; assumption, fun w hw => Out.here (a := ds ++ es) o2 m2 (t1.app t2) w hw⟩
      · exact o2.elim
    · exact o2.elim
theorem sf_rep (ha : SE X F W a fa) (hb : SE X F W b fb) : SF X F W (.BinOp a .Mult b pos) (fRep fa fb) :=
  PE.imp (pe_op op_rep ha hb) fun σ H Q ⟨g, ρ, e1, e2, m, v, o⟩ => by
    refine ⟨g, ρ, e1, e2, m, v, Out.of_bind o fun x g1 xv m1 x1 r1 o1 => ?_⟩
    refine ⟨g1, ρ, x1.fx.trans e1, rfl, m1, v.mono x1, Out.of_bind o1 fun y g2 yv m2 x2 r2 o2 => ?_⟩
    split at o2
    · rename_i ds k h1
      split at o2
      · rename_i hc
        obtain ⟨p, xs, rfl, q1, t1⟩ := lstW_rep m2 (r1.mono x2) h1
        cases r2
        exact ⟨p, k, xs, rfl, rfl, q1, hc.1, hc.2.1, by rw [← t1.length]; exact hc.2.2, fun w hw => Out.here (a := (List.replicate k.toNat ds).flatten) o2 m2 (flat_rep t1 _) w hw⟩
      · exact o2.elim
    · exact o2.elim
end

/-! ### built-in functions, types, methods -/
def fBi (op : DFn) (es : SemA) : Sem := fun ρ μ => (es ρ μ).bind op
abbrev DFl := List D → Mem → R (List D)
def fBl (op : DFl) (es : SemA) : SemA := fun ρ μ => (es ρ μ).bind op
def rDF (F : Fx) (op : DFl) : List V → Hp → VK → Prop := fun xs H Q => ∃ (g : G) (ds : List D), g.fx = F ∧ g.H = H ∧ MemOk g ∧ RepL g ds xs ∧ Out RepL (fun _ _ _ => False) g (op ds g.μ) (fun xs H' => ∀ p, H' p = none → Q (.ref p) (upd H' p (.lst xs)))
def fMt (op : D → List D → Mem → R D) (o : Sem) (es : SemA) : Sem := fun ρ μ => (o ρ μ).bind fun x μ => (es ρ μ).bind fun ds μ => op x ds μ
def fMl (op : D → List D → Mem → R (List D)) (o : Sem) (es : SemA) : SemA := fun ρ μ => (o ρ μ).bind fun x μ => (es ρ μ).bind fun ds μ => op x ds μ
def rDMF (F : Fx) (op : D → List D → Mem → R (List D)) : V → List V → Hp → VK → Prop := fun x xs H Q => ∃ (g : G) (a : D) (ds : List D), g.fx = F ∧ g.H = H ∧ MemOk g ∧ Rep g a x ∧ RepL g ds xs ∧ Out RepL (fun _ _ _ => False) g (op a ds g.μ) (fun xs H' => ∀ p, H' p = none → Q (.ref p) (upd H' p (.lst xs)))
section
variable {X : Cx} {F : Fx} {W : WX} {a b e o : Expr} {es : List Expr} {fa fb fo : Sem} {f : SemA} {pos p apos cpos : Pos} {x : Str} {id T : String} {op : DFn} {opl : DFl} {name : Str}
theorem se_bi (hc : CallR X (.builtin id) (rDA F op)) (cm : ∀ ds μ, (op ds μ).calm) (hm : X.mg x = none) (ha : SA X F W (e :: es) f) (hg : Gl X x := by rfl) (hv : bootBuiltins x = some (.builtin id) := by decide +kernel) (hn : x ≠ "__name__" := by decide) (hd : (x == ("__debug__" : Str)) = false := by decide)
    (he : starEach (e :: es) X.env = (false, eval e X.env) :: starEach es X.env := by rfl) (hpl : (backTo pos (starEach es X.env)).any (·.1) = false := by rfl) : SE X F W (.Call (.Name x p) (e :: es) [] pos) (fBi op f) :=
  PE.imp (pe_callB hc hg hm hv ha hn hd he hpl) fun σ H Q h => tW.bind h fun g ρ ds vs e m w r o => ⟨g, ds, e, rfl, m, r, o.calm (cm _ _)⟩
theorem se_bty (hc : CallR X (.type T) (rDA F op)) (cm : ∀ ds μ, (op ds μ).calm) (hm : X.mg x = none) (ha : SA X F W (e :: es) f) (hg : Gl X x := by rfl) (hv : bootBuiltins x = some (.type T) := by decide +kernel) (hn : x ≠ "__name__" := by decide) (hd : (x == ("__debug__" : Str)) = false := by decide)
    (he : starEach (e :: es) X.env = (false, eval e X.env) :: starEach es X.env := by rfl) (hpl : (backTo pos (starEach es X.env)).any (·.1) = false := by rfl) : SE X F W (.Call (.Name x p) (e :: es) [] pos) (fBi op f) :=
  PE.imp (pe_callTy hc hg hm hv ha hn hd he hpl) fun σ H Q h => tW.bind h fun g ρ ds vs e m w r o => ⟨g, ds, e, rfl, m, r, o.calm (cm _ _)⟩
theorem sf_bi (hc : CallR X (.builtin id) (rDF F opl)) (cm : ∀ ds μ, (opl ds μ).calm) (hm : X.mg x = none) (ha : SA X F W (e :: es) f) (hg : Gl X x := by rfl) (hv : bootBuiltins x = some (.builtin id) := by decide +kernel) (hn : x ≠ "__name__" := by decide) (hd : (x == ("__debug__" : Str)) = false := by decide)
    (he : starEach (e :: es) X.env = (false, eval e X.env) :: starEach es X.env := by rfl) (hpl : (backTo pos (starEach es X.env)).any (·.1) = false := by rfl) : SF X F W (.Call (.Name x p) (e :: es) [] pos) (fBl opl f) :=
  PE.imp (pe_callB hc hg hm hv ha hn hd he hpl) fun σ H Q ⟨g, ρ, e1, e2, m, v, o⟩ => ⟨g, ρ, e1, e2, m, v, Out.of_bind o fun ds g1 vs m1 x1 r1 o1 => ⟨g1, ds, x1.fx.trans e1, rfl, m1, r1, o1.calm (cm _ _)⟩⟩
theorem sf_bty (hc : CallR X (.type T) (rDF F opl)) (cm : ∀ ds μ, (opl ds μ).calm) (hm : X.mg x = none) (ha : SA X F W (e :: es) f) (hg : Gl X x := by rfl) (hv : bootBuiltins x = some (.type T) := by decide +kernel) (hn : x ≠ "__name__" := by decide) (hd : (x == ("__debug__" : Str)) = false := by decide)
    (he : starEach (e :: es) X.env = (false, eval e X.env) :: starEach es X.env := by rfl) (hpl : (backTo pos (starEach es X.env)).any (·.1) = false := by rfl) : SF X F W (.Call (.Name x p) (e :: es) [] pos) (fBl opl f) :=
  PE.imp (pe_callTy hc hg hm hv ha hn hd he hpl) fun σ H Q ⟨g, ρ, e1, e2, m, v, o⟩ => ⟨g, ρ, e1, e2, m, v, Out.of_bind o fun ds g1 vs m1 x1 r1 o1 => ⟨g1, ds, x1.fx.trans e1, rfl, m1, r1, o1.calm (cm _ _)⟩⟩
/-- of which built-in type a datum is, for a method -/
def tyD (T : String) (d : D) (μ : Mem) : Bool := match d with
  | .str _ => T == "str"
  | .int _ => T == "int"
  | .dic _ _ => T == "dict"
  | d => (T == "list" && (lstD μ d).isSome) || (T == "dict" && (dicD μ d).isSome)
theorem tyD_ok {g : G} (hF : F.K = X.K) (e : g.fx = F) (m : MemOk g) {d : D} {v : V} (r : Rep g d v) (h : tyD T d g.μ = true) (hw : T = "dict" → ∀ p xs, v = .ref p → Rd g.H p (.dK xs) → g.H p = some (.dK xs)) : tyV X.K T v g.H := by
  have eK := fxK e hF
  have gen : ∀ d : D, Rep g d v → ((T == "list" && (lstD g.μ d).isSome) || (T == "dict" && (dicD g.μ d).isSome)) = true → tyV X.K T v g.H := by
    intro d r h
    simp only [Bool.or_eq_true, Bool.and_eq_true, beq_iff_eq] at h
    rcases h with ⟨h1, h2⟩ | ⟨h1, h2⟩
    · obtain ⟨ds, hd⟩ := Option.isSome_iff_exists.mp h2
      obtain ⟨p, xs, rfl, q1, t⟩ := lstD_rep m r hd
      exact .inl ⟨h1, xs, eK ▸ q1⟩
    · obtain ⟨ds, hd⟩ := Option.isSome_iff_exists.mp h2
      obtain ⟨p, xs, rfl, q1, l, t⟩ := dicD_rep m (ks := ds.1) (ds := ds.2) r hd
      exact .inr (.inr (.inl ⟨h1, .inl ⟨_, hw h1 p _ rfl q1⟩⟩))
  cases d with
  | str x => cases r; exact beq_iff_eq.mp h
  | int i => cases r; exact beq_iff_eq.mp h
  | dic ks ds => exact gen _ r (by
      have : T == "dict" := h
      simp [dicD, this])
  | _ => exact gen _ r h
/-- a method of texts and lists -/
def tyK (T : String) (op : D → List D → Mem → R D) : D → List D → Mem → R D := fun x ds μ => op x ds μ
def fMtT (T : String) (op : D → List D → Mem → R D) (o : Sem) (es : SemA) : Sem := fun ρ μ => (o ρ μ).bind fun x μ => if tyD T x μ = true then (es ρ μ).bind fun ds μ => op x ds μ else .bad
def fMlT (T : String) (op : D → List D → Mem → R (List D)) (o : Sem) (es : SemA) : SemA := fun ρ μ => (o ρ μ).bind fun x μ => if tyD T x μ = true then (es ρ μ).bind fun ds μ => op x ds μ else .bad
theorem rd_dk {g : G} {p : Addr} {xs : List (Key × V)} (hT : T ≠ "dict") : T = "dict" → ∀ p xs, V.ref p = .ref p → Rd g.H p (.dK xs) → g.H p = some (.dK xs) := fun z => (hT z).elim
theorem se_mt {opm : D → List D → Mem → R D} (hF : F.K = X.K) (hT : T ≠ "dict" := by decide) (pa : PlainAttrs T) (slot : Slot T name id) (hty : typeOf (.builtin id) = pure (.type "method_descriptor")) (hm : MtR X id (rDM F opm)) (cm : ∀ x ds μ, (opm x ds μ).calm) (ho : SE X F W o fo) (ha : SA X F W (e :: es) f) (hbase : attributeBase o name X.env (eval o X.env) = eval o X.env := by rfl)
    (hfew : ((backTo cpos (starEach (e :: es) X.env)).all (fun x => !x.1) && (backToKw cpos (keywordEach [] X.env)).all (fun x => x.1.isSome)
      && decide ((e :: es).length + ([] : List Keyword).length + (if ([] : List Keyword).isEmpty then 0 else 1) < 30)) = true := by rfl)
    (hline : (apos.endLine == cpos.line) = true := by rfl) (he : starEach (e :: es) X.env = (false, eval e X.env) :: starEach es X.env := by rfl) (hpl : (backTo cpos (starEach es X.env)).any (·.1) = false := by rfl) : SE X F W (.Call (.Attribute o name apos) (e :: es) [] cpos) (fMtT T opm fo f) :=
  PE.imp (pe_bm pa slot hty hm ho ha hbase hfew hline he hpl) fun σ H Q h => tW.bind h fun g ρ x v e m w r o => by
    cases ht : tyD T x g.μ with
    | false => simp only [ht] at o; exact o.elim
    | true =>
      simp only [ht, if_true] at o
      exact ⟨tyD_ok hF e m r ht fun z => (hT z).elim, g, ρ, e, rfl, m, w, o.bind fun ds g1 vs m1 x1 r1 o1 => ⟨g1, x, ds, x1.fx.trans e, rfl, m1, r.mono x1, r1, o1.calm (cm _ _ _)⟩⟩
theorem se_mt0 {opm : D → List D → Mem → R D} (hF : F.K = X.K) (hT : T ≠ "dict" := by decide) (pa : PlainAttrs T) (slot : Slot T name id) (hty : typeOf (.builtin id) = pure (.type "method_descriptor")) (hm : MtR X id (rDM F opm)) (cm : ∀ x ds μ, (opm x ds μ).calm) (ho : SE X F W o fo) (hbase : attributeBase o name X.env (eval o X.env) = eval o X.env := by rfl)
    (hline : (apos.endLine == cpos.line) = true := by rfl) : SE X F W (.Call (.Attribute o name apos) [] [] cpos) (fMtT T opm fo fNil) :=
  PE.imp (pe_bm0 pa slot hty hm ho hbase hline) fun σ H Q h => tW.bind h fun g ρ x v e m w r o => by
    cases ht : tyD T x g.μ with
    | false => simp only [ht] at o; exact o.elim
    | true =>
      simp only [ht, if_true] at o
      exact ⟨tyD_ok hF e m r ht fun z => (hT z).elim, g, x, [], e, rfl, m, r, RepL.nil, Out.calm (r := opm x [] g.μ) o (cm _ _ _)⟩
theorem sf_mt {opm : D → List D → Mem → R (List D)} (hF : F.K = X.K) (hT : T ≠ "dict" := by decide) (pa : PlainAttrs T) (slot : Slot T name id) (hty : typeOf (.builtin id) = pure (.type "method_descriptor")) (hm : MtR X id (rDMF F opm)) (cm : ∀ x ds μ, (opm x ds μ).calm) (ho : SE X F W o fo) (ha : SA X F W (e :: es) f) (hbase : attributeBase o name X.env (eval o X.env) = eval o X.env := by rfl)
    (hfew : ((backTo cpos (starEach (e :: es) X.env)).all (fun x => !x.1) && (backToKw cpos (keywordEach [] X.env)).all (fun x => x.1.isSome)
      && decide ((e :: es).length + ([] : List Keyword).length + (if ([] : List Keyword).isEmpty then 0 else 1) < 30)) = true := by rfl)
    (hline : (apos.endLine == cpos.line) = true := by rfl) (he : starEach (e :: es) X.env = (false, eval e X.env) :: starEach es X.env := by rfl) (hpl : (backTo cpos (starEach es X.env)).any (·.1) = false := by rfl) : SF X F W (.Call (.Attribute o name apos) (e :: es) [] cpos) (fMlT T opm fo f) :=
  PE.imp (pe_bm pa slot hty hm ho ha hbase hfew hline he hpl) fun σ H Q ⟨g, ρ, e1, e2, m, v, o⟩ => ⟨g, ρ, e1, e2, m, v, Out.of_bind o fun x g1 xv m1 x1 r1 o1 => by
    cases ht : tyD T x g1.μ with
    | false => simp only [ht] at o1; exact o1.elim
    | true =>
      simp only [ht, if_true] at o1
      exact ⟨tyD_ok hF (x1.fx.trans e1) m1 r1 ht fun z => (hT z).elim, g1, ρ, x1.fx.trans e1, rfl, m1, v.mono x1, Out.of_bind o1 fun ds g2 vs m2 x2 r2 o2 => ⟨g2, x, ds, x2.fx.trans (x1.fx.trans e1), rfl, m2, r1.mono x2, r2, o2.calm (cm _ _ _)⟩⟩⟩
end
end Z

namespace Z
open PySem PySem.Spec PyProof.Rows L2

/-! ### built-in functions -/
def intD : D → Option Int
  | .int i => some i
  | _ => none
def intsD : List D → Option (List Int)
  | [] => some []
  | .int i :: ds => (intsD ds).map (i :: ·)
  | _ :: _ => none
def strsD : List D → Option (List Str)
  | [] => some []
  | .str i :: ds => (strsD ds).map (i :: ·)
  | _ :: _ => none
theorem intsD_rep {g : G} : ∀ {ds : List D} {xs : List V} {ns : List Int}, RepL g ds xs → intsD ds = some ns → xs = ns.map V.int
  | [], _, _, r, h => by cases r; cases h; rfl
  | d :: ds, _, ns, r, h => by
    obtain ⟨v, vs, rfl, r1, r2⟩ := r
    cases d with
    | int i =>
      simp only [intsD] at h
      cases e : intsD ds with
      | none => rw [e] at h; cases h
      | some ms =>
        rw [e] at h
        cases h
        cases r1
        rw [intsD_rep r2 e]; rfl
    | _ => simp [intsD] at h
theorem strsD_rep {g : G} : ∀ {ds : List D} {xs : List V} {ns : List Str}, RepL g ds xs → strsD ds = some ns → xs = ns.map V.str
  | [], _, _, r, h => by cases r; cases h; rfl
  | d :: ds, _, ns, r, h => by
    obtain ⟨v, vs, rfl, r1, r2⟩ := r
    cases d with
    | str i =>
      simp only [strsD] at h
      cases e : strsD ds with
      | none => rw [e] at h; cases h
      | some ms =>
        rw [e] at h
        cases h
        cases r1
        rw [strsD_rep r2 e]; rfl
    | _ => simp [strsD] at h
def dLen1 (x : D) (μ : Mem) : Option D := match x with
  | .str z => if z.length ≤ sizeLine then some (.int z.length) else none
  | .tup ds => some (.int ds.length)
  | x => match lstD μ x with
    | some ds => some (.int ds.length)
    | none => match dicD μ x with
      | some (ks, _) => some (.int ks.length)
      | none => none
def dLen : DFn := fun ds μ => match ds with
  | [x] => R.ofP μ (dLen1 x μ)
  | _ => .bad
def dAbs : DFn := fun ds μ => match ds with
  | [.int i] => .ok (.int (if i < 0 then -i else i)) μ
  | _ => .bad
def dInt : DFn := fun ds μ => match ds with
  | [.int i] => .ok (.int i) μ
  | [.bl b] => .ok (.int (if b then 1 else 0)) μ
  | [.str s] => (match PySem.intText? s with
    | some n => if s.length ≤ 640 then .ok (.int n) μ else .bad
    | none => .bad)
  | _ => .bad
def dStr : DFn := fun ds μ => match ds with
  | [.int i] => if i.natAbs.log2 < 1920 then .ok (.str (toString i)) μ else .bad
  | [.str s] => .ok (.str s) μ
  | _ => .bad
def dMax2 : DFn := fun ds μ => match ds with
  | [.int i, .int j] => .ok (.int (max i j)) μ
  | _ => .bad
def dMin2 : DFn := fun ds μ => match ds with
  | [.int i, .int j] => .ok (.int (min i j)) μ
  | _ => .bad
def dSum : DFn := fun ds μ => match ds with
  | [x] => (match (lstD μ x).bind intsD with
    | some ns => .ok (.int ns.sum) μ
    | none => .bad)
  | _ => .bad
def dGcd : DFn := fun ds μ => match ds with
  | [.int i, .int j] => .ok (.int ((Nat.gcd i.natAbs j.natAbs : Nat) : Int)) μ
  | _ => .bad
/-- the greatest, the least of a list of ints -/
def maxI : List Int → Option Int
  | [] => none
  | n :: ns => some (ns.foldl max n)
def minI : List Int → Option Int
  | [] => none
  | n :: ns => some (ns.foldl min n)
def dMax1 : DFn := fun ds μ => match ds with
  | [x] => R.ofP μ (((lstD μ x).bind intsD).bind fun ns => (maxI ns).map D.int)
  | _ => .bad
def dMin1 : DFn := fun ds μ => match ds with
  | [x] => R.ofP μ (((lstD μ x).bind intsD).bind fun ns => (minI ns).map D.int)
  | _ => .bad
def dTuple : DFn := fun ds μ => match ds with
  | [.tup xs] => .ok (.tup xs) μ
  | [x] => (match lstD μ x with
    | some xs => .ok (.tup xs) μ
    | none => .bad)
  | _ => .bad
/-- list(x), its items -/
def dList : DFl := fun ds μ => match ds with
  | [.tup xs] => .ok xs μ
  | [x] => (match lstD μ x with
    | some xs => .ok xs μ
    | none => .bad)
  | _ => .bad
theorem cm_len (ds : List D) (μ : Mem) : (dLen ds μ).calm := by unfold dLen; split; exact R.calm_ofP _ _; trivial
theorem cm_abs (ds : List D) (μ : Mem) : (dAbs ds μ).calm := by unfold dAbs; split <;> trivial
theorem cm_int (ds : List D) (μ : Mem) : (dInt ds μ).calm := by
  unfold dInt
  split
  · trivial
  · trivial
  · split
    · split <;> trivial
    · trivial
  · trivial
theorem cm_str (ds : List D) (μ : Mem) : (dStr ds μ).calm := by
  unfold dStr
  split
  · split <;> trivial
  · trivial
  · trivial
theorem cm_max2 (ds : List D) (μ : Mem) : (dMax2 ds μ).calm := by unfold dMax2; split <;> trivial
theorem cm_min2 (ds : List D) (μ : Mem) : (dMin2 ds μ).calm := by unfold dMin2; split <;> trivial
theorem cm_sum (ds : List D) (μ : Mem) : (dSum ds μ).calm := by
  unfold dSum
  split
  · split <;> trivial
  · trivial
theorem cm_gcd (ds : List D) (μ : Mem) : (dGcd ds μ).calm := by unfold dGcd; split <;> trivial
theorem cm_max1 (ds : List D) (μ : Mem) : (dMax1 ds μ).calm := by unfold dMax1; split; exact R.calm_ofP _ _; trivial
theorem cm_min1 (ds : List D) (μ : Mem) : (dMin1 ds μ).calm := by unfold dMin1; split; exact R.calm_ofP _ _; trivial
theorem cm_tuple (ds : List D) (μ : Mem) : (dTuple ds μ).calm := by
  unfold dTuple
  split
  · trivial
  · split <;> trivial
  · trivial
theorem cm_list (ds : List D) (μ : Mem) : (dList ds μ).calm := by
  unfold dList
  split
  · trivial
  · split <;> trivial
  · trivial
theorem one_rep {g : G} {d : D} {xs : List V} (r : RepL g [d] xs) : ∃ v, xs = [v] ∧ Rep g d v := by
  obtain ⟨v, vs, rfl, r1, r2⟩ := r
  cases r2
  exact ⟨v, rfl, r1⟩
theorem two_rep {g : G} {d e : D} {xs : List V} (r : RepL g [d, e] xs) : ∃ v w, xs = [v, w] ∧ Rep g d v ∧ Rep g e w := by
  obtain ⟨v, vs, rfl, r1, r2⟩ := r
  obtain ⟨w, rfl, r3⟩ := one_rep r2
  exact ⟨v, w, rfl, r1, r3⟩
theorem foldl_max : ∀ (ns : List Int) (n : Int), (ns.foldl max n ∈ n :: ns) ∧ ∀ y ∈ n :: ns, y ≤ ns.foldl max n
  | [], n => ⟨by simp, by simp⟩
  | m :: ns, n => by
    obtain ⟨h1, h2⟩ := foldl_max ns (max n m)
    refine ⟨?_, fun y hy => ?_⟩
    · show ns.foldl max (max n m) ∈ _
      rcases List.mem_cons.mp h1 with e | e
      · rw [e]
        rcases Int.le_total n m with q | q
        · rw [Int.max_eq_right q]; simp
        · rw [Int.max_eq_left q]; simp
      · simp [e]
    · show y ≤ ns.foldl max (max n m)
      have h3 := h2 (max n m) List.mem_cons_self
      rcases List.mem_cons.mp hy with e | e
      · subst e; omega
      · rcases List.mem_cons.mp e with e | e
        · subst e; omega
        · exact h2 y (List.mem_cons_of_mem _ e)
theorem foldl_min : ∀ (ns : List Int) (n : Int), (ns.foldl min n ∈ n :: ns) ∧ ∀ y ∈ n :: ns, ns.foldl min n ≤ y
  | [], n => ⟨by simp, by simp⟩
  | m :: ns, n => by
    obtain ⟨h1, h2⟩ := foldl_min ns (min n m)
    refine ⟨?_, fun y hy => ?_⟩
    · show ns.foldl min (min n m) ∈ _
      rcases List.mem_cons.mp h1 with e | e
      · rw [e]
        rcases Int.le_total n m with q | q
        · rw [Int.min_eq_left q]; simp
        · rw [Int.min_eq_right q]; simp
      · simp [e]
    · show ns.foldl min (min n m) ≤ y
      have h3 := h2 (min n m) List.mem_cons_self
      rcases List.mem_cons.mp hy with e | e
      · subst e; omega
      · rcases List.mem_cons.mp e with e | e
        · subst e; omega
        · exact h2 y (List.mem_cons_of_mem _ e)
section
variable {X : Cx} {F : Fx}
theorem call_len_dic : CallR X (.builtin "len") (fun xs H Q => ∃ p kvs, xs = [.ref p] ∧ Rd H p (.dK kvs) ∧ Q (.int kvs.length) H) := by
  intro pins s σ H xs us Q I r h
  obtain ⟨p, kvs, rfl, hd, q⟩ := h
  have e := r.ref1
  subst e
  exact d_len I hd fun t s' I' => ⟨.int kvs.length, H, I', ⟨_, rfl⟩, q⟩
theorem cd_len (hF : F.K = X.K) : CallR X (.builtin "len") (rDA F dLen) := by
  intro pins s σ H xs us Q I r h
  obtain ⟨g, ds, e, rfl, m, rr, o⟩ := h
  have eK := fxK e hF
  match ds, rr, o with
  | [], _, o => exact o.elim
  | _ :: _ :: _, _, o => exact o.elim
  | [x], rr, o =>
    obtain ⟨v, rfl, rx⟩ := one_rep rr
    obtain ⟨d, ed, o⟩ := Out.ofP (o := dLen1 x g.μ) o
    unfold dLen1 at ed
    split at ed
    · split at ed
      · cases ed; cases rx
        exact call_len_str pins s σ g.H _ us Q I r ⟨_, rfl, by assumption, o.here m rfl⟩
      · cases ed
    · cases ed
      obtain ⟨p, xs, rfl, q, t⟩ := rx
      exact call_len_seq pins s σ g.H _ us Q I r ⟨p, xs, rfl, .inr (eK ▸ q.sq), o.here m (by rw [t.length]; rfl)⟩
    · split at ed
      · rename_i ds hl
        cases ed
        obtain ⟨p, xs, rfl, q, t⟩ := lstD_rep m rx hl
        exact call_len_seq pins s σ g.H _ us Q I r ⟨p, xs, rfl, .inl (eK ▸ q), o.here m (by rw [t.length]; rfl)⟩
      · split at ed
        · rename_i ks ds hl
          cases ed
          obtain ⟨p, xs, rfl, q, l, t⟩ := dicD_rep m rx hl
          exact call_len_dic pins s σ g.H _ us Q I r ⟨p, _, rfl, q, o.here m (by rw [List.length_zip, ← l, Nat.min_self]; rfl)⟩
        · cases ed
theorem cd_abs : CallR X (.builtin "abs") (rDA F dAbs) := by
  intro pins s σ H xs us Q I r h
  obtain ⟨g, ds, e, rfl, m, rr, o⟩ := h
  unfold dAbs at o
  split at o
  · obtain ⟨v, rfl, rx⟩ := one_rep rr
    cases rx
    exact call_abs pins s σ g.H _ us Q I r ⟨_, rfl, o.here m rfl⟩
  · exact o.elim
theorem cd_int : CallR X (.type "int") (rDA F dInt) := by
  intro pins s σ H xs us Q I r h
  obtain ⟨g, ds, e, rfl, m, rr, o⟩ := h
  unfold dInt at o
  split at o
  · obtain ⟨v, rfl, rx⟩ := one_rep rr
    cases rx
    exact call_int1 pins s σ g.H _ us Q I r (.inl ⟨_, rfl, o.here m rfl⟩)
  · obtain ⟨v, rfl, rx⟩ := one_rep rr
    cases rx
    exact call_int1 pins s σ g.H _ us Q I r (.inr ⟨_, rfl, o.here m rfl⟩)
  · obtain ⟨v, rfl, rx⟩ := one_rep rr
    cases rx
    split at o
    · split at o
      · exact call_int_str pins s σ g.H _ us Q I r ⟨_, _, rfl, by assumption, by assumption, o.here m rfl⟩
      · exact o.elim
    · exact o.elim
  · exact o.elim
theorem cd_str : CallR X (.type "str") (rDA F dStr) := by
  intro pins s σ H xs us Q I r h
  obtain ⟨g, ds, e, rfl, m, rr, o⟩ := h
  unfold dStr at o
  split at o
  · obtain ⟨v, rfl, rx⟩ := one_rep rr
    cases rx
    split at o
    · exact call_str_int pins s σ g.H _ us Q I r ⟨_, rfl, by assumption, o.here m rfl⟩
    · exact o.elim
  · obtain ⟨v, rfl, rx⟩ := one_rep rr
    cases rx
    exact SkE.call_str_str pins s σ g.H _ us Q I r ⟨_, rfl, o.here m rfl⟩
  · exact o.elim
theorem cd_max2 (hc : X.calm = true) : CallR X (.builtin "max") (rDA F dMax2) := by
  intro pins s σ H xs us Q I r h
  obtain ⟨g, ds, e, rfl, m, rr, o⟩ := h
  unfold dMax2 at o
  split at o
  · rename_i i j
    obtain ⟨v, w, rfl, rx, ry⟩ := two_rep rr
    cases rx; cases ry
    refine call_max2 hc pins s σ g.H _ us Q I r ⟨_, _, rfl, o.here m ?_⟩
    show V.int _ = V.int _
    congr 1
    split <;> omega
  · exact o.elim
theorem cd_min2 (hc : X.calm = true) : CallR X (.builtin "min") (rDA F dMin2) := by
  intro pins s σ H xs us Q I r h
  obtain ⟨g, ds, e, rfl, m, rr, o⟩ := h
  unfold dMin2 at o
  split at o
  · rename_i i j
    obtain ⟨v, w, rfl, rx, ry⟩ := two_rep rr
    cases rx; cases ry
    refine call_min2 hc pins s σ g.H _ us Q I r ⟨_, _, rfl, o.here m ?_⟩
    show V.int _ = V.int _
    congr 1
    split <;> omega
  · exact o.elim
theorem bind_some {α β : Type} {o : Option α} {k : α → Option β} {b : β} (h : o.bind k = some b) : ∃ a, o = some a ∧ k a = some b := by
  cases o with
  | none => cases h
  | some a => exact ⟨a, rfl, h⟩
theorem cd_sum (hF : F.K = X.K) (hc : X.calm = true) : CallR X (.builtin "sum") (rDA F dSum) := by
  intro pins s σ H xs us Q I r h
  obtain ⟨g, ds, e, rfl, m, rr, o⟩ := h
  have eK := fxK e hF
  unfold dSum at o
  split at o
  · obtain ⟨v, rfl, rx⟩ := one_rep rr
    split at o
    · rename_i ns hb
      obtain ⟨es, h1, h2⟩ := bind_some hb
      obtain ⟨p, xs, rfl, q, t⟩ := lstD_rep m rx h1
      have := intsD_rep t h2
      subst this
      exact cr_sum hc pins s σ g.H _ us Q I r ⟨p, ns, rfl, eK ▸ q, o.here m rfl⟩
    · exact o.elim
  · exact o.elim
theorem cd_max1 (hF : F.K = X.K) (hc : X.calm = true) : CallR X (.builtin "max") (rDA F dMax1) := by
  intro pins s σ H xs us Q I r h
  obtain ⟨g, ds, e, rfl, m, rr, o⟩ := h
  have eK := fxK e hF
  unfold dMax1 at o
  split at o
  · obtain ⟨v, rfl, rx⟩ := one_rep rr
    obtain ⟨d, ed, o⟩ := Out.ofP o
    obtain ⟨ns, hb, ed⟩ := bind_some ed
    obtain ⟨es, h1, h2⟩ := bind_some hb
    obtain ⟨p, xs, rfl, q, t⟩ := lstD_rep m rx h1
    have := intsD_rep t h2
    subst this
    cases ns with
    | nil => cases ed
    | cons n ns =>
      cases ed
      obtain ⟨f1, f2⟩ := foldl_max ns n
      refine cr_max hc pins s σ g.H _ us Q I r ⟨p, n :: ns, rfl, eK ▸ q, by simp, fun k hk hle => ?_⟩
      have : k = ns.foldl max n := Int.le_antisymm (f2 k hk) (hle _ f1)
      subst this
      exact o.here m rfl
  · exact o.elim
theorem cd_min1 (hF : F.K = X.K) (hc : X.calm = true) : CallR X (.builtin "min") (rDA F dMin1) := by
  intro pins s σ H xs us Q I r h
  obtain ⟨g, ds, e, rfl, m, rr, o⟩ := h
  have eK := fxK e hF
  unfold dMin1 at o
  split at o
  · obtain ⟨v, rfl, rx⟩ := one_rep rr
    obtain ⟨d, ed, o⟩ := Out.ofP o
    obtain ⟨ns, hb, ed⟩ := bind_some ed
    obtain ⟨es, h1, h2⟩ := bind_some hb
    obtain ⟨p, xs, rfl, q, t⟩ := lstD_rep m rx h1
    have := intsD_rep t h2
    subst this
    cases ns with
    | nil => cases ed
    | cons n ns =>
      cases ed
      obtain ⟨f1, f2⟩ := foldl_min ns n
      refine cr_min hc pins s σ g.H _ us Q I r ⟨p, n :: ns, rfl, eK ▸ q, by simp, fun k hk hle => ?_⟩
      have : k = ns.foldl min n := Int.le_antisymm (hle _ f1) (f2 k hk)
      subst this
      exact o.here m rfl
  · exact o.elim
theorem cd_gcd : CallR X (.builtin "math.gcd") (rDA F dGcd) := by
  intro pins s σ H xs us Q I r h
  obtain ⟨g, ds, e, rfl, m, rr, o⟩ := h
  unfold dGcd at o
  split at o
  · obtain ⟨v, w, rfl, rx, ry⟩ := two_rep rr
    cases rx; cases ry
    exact cr_gcd pins s σ g.H _ us Q I r ⟨_, _, rfl, o.here m rfl⟩
  · exact o.elim
theorem cd_tuple (hF : F.K = X.K) : CallR X (.type "tuple") (rDA F dTuple) := by
  intro pins s σ H xs us Q I r h
  obtain ⟨g, ds, e, rfl, m, rr, o⟩ := h
  have eK := fxK e hF
  unfold dTuple at o
  split at o
  · obtain ⟨v, rfl, rx⟩ := one_rep rr
    have rx' := rx
    obtain ⟨p, xs, rfl, q, t⟩ := rx
    exact call_tuple_of pins s σ g.H _ us Q I r ⟨p, xs, rfl, .inr ⟨eK ▸ q.sq, o.here m rx'⟩⟩
  · obtain ⟨v, rfl, rx⟩ := one_rep rr
    split at o
    · rename_i ds hl
      obtain ⟨p, xs, rfl, q, t⟩ := lstD_rep m rx hl
      exact call_tuple_of pins s σ g.H _ us Q I r ⟨p, xs, rfl, .inl ⟨eK ▸ q, fun w hw => out_tup o m t w hw⟩⟩
    · exact o.elim
  · exact o.elim
theorem cf_list (hF : F.K = X.K) : CallR X (.type "list") (rDF F dList) := by
  intro pins s σ H xs us Q I r h
  obtain ⟨g, ds, e, rfl, m, rr, o⟩ := h
  have eK := fxK e hF
  unfold dList at o
  split at o
  · obtain ⟨v, rfl, rx⟩ := one_rep rr
    obtain ⟨p, xs, rfl, q, t⟩ := rx
    exact call_list_of pins s σ g.H _ us Q I r ⟨p, xs, rfl, .inr (eK ▸ q.sq), Out.here (a := _) o m t⟩
  · obtain ⟨v, rfl, rx⟩ := one_rep rr
    split at o
    · rename_i ds hl
      obtain ⟨p, xs, rfl, q, t⟩ := lstD_rep m rx hl
      exact call_list_of pins s σ g.H _ us Q I r ⟨p, xs, rfl, .inl (eK ▸ q), Out.here (a := _) o m t⟩
    · exact o.elim
  · exact o.elim
end

/-! ### methods of lists in cells -/
def cellL (μ : Mem) (x : D) : Option (Nat × List D) := match x with
  | .obj n => match μ[n]? with
    | some (.lst ds) => some (n, ds)
    | _ => none
  | _ => none
def putL (n : Nat) (ds : List D) (d : D) (μ : Mem) : R D := .ok d (μ.set n (.lst ds))
def dAppend (x : D) (as : List D) (μ : Mem) : R D := match cellL μ x, as with
  | some (n, ds), [d] => if ds.length < sizeLine then putL n (ds ++ [d]) .non μ else .bad
  | _, _ => .bad
def dInsert (x : D) (as : List D) (μ : Mem) : R D := match cellL μ x, as with
  | some (n, ds), [.int i, d] => if ds.length < sizeLine ∧ 0 ≤ i ∧ i < 2 ^ 63 then putL n (ds.take i.toNat ++ [d] ++ ds.drop i.toNat) .non μ else .bad
  | _, _ => .bad
def dPop (x : D) (as : List D) (μ : Mem) : R D := match cellL μ x, as with
  | some (n, ds), [] => (match ds[ds.length - 1]? with
    | some d => putL n ds.dropLast d μ
    | none => .bad)
  | _, _ => .bad
def dPopAt (x : D) (as : List D) (μ : Mem) : R D := match cellL μ x, as with
  | some (n, ds), [.int i] => (match ixN ds.length i with
    | some k => (match ds[k]? with
      | some d => putL n (ds.eraseIdx k) d μ
      | none => .bad)
    | none => .bad)
  | _, _ => .bad
def dExtend (x : D) (as : List D) (μ : Mem) : R D := match cellL μ x, as with
  | some (n, ds), [y] => (match lstW μ y with
    | some es => if ds.length + es.length ≤ sizeLine then putL n (ds ++ es) .non μ else .bad
    | none => .bad)
  | _, _ => .bad
theorem cellL_rep {g : G} (m : MemOk g) {x : D} {v : V} {n : Nat} {ds : List D} (r : Rep g x v) (h : cellL g.μ x = some (n, ds)) : ∃ a xs, v = .ref a ∧ g.α[n]? = some a ∧ g.μ[n]? = some (.lst ds) ∧ g.H a = some (.lst xs) ∧ RepL g ds xs := by
  cases x with
  | obj k =>
    obtain ⟨a, q, rfl⟩ := r
    unfold cellL at h
    simp only at h
    split at h
    · rename_i es hc
      cases h
      obtain ⟨xs, h1, t⟩ := m.cells _ a _ q hc
      exact ⟨a, xs, rfl, q, hc, h1, t⟩
    · cases h
  | _ => cases h
/-- a list in a cell is written anew -/
theorem out_put {g : G} {E : XK} {n : Nat} {a : Addr} {ds es : List D} {ys : List V} {d : D} {v : V} {Q : VK} (o : Out Rep E g (putL n es d g.μ) Q) (m : MemOk g) (hα : g.α[n]? = some a) (hμ : g.μ[n]? = some (.lst ds)) (r : RepL g es ys) (rd : Rep g d v) : Q v (upd g.H a (.lst ys)) :=
  o (g.wr n a (.lst ys) (.lst es)) v rfl (m.wr hα hμ rfl ⟨ys, upd_same, r.mono (Ext.wr m hα hμ rfl)⟩) (Ext.wr m hα hμ rfl) (rd.mono (Ext.wr m hα hμ rfl))
theorem cm_append (x : D) (as : List D) (μ : Mem) : (dAppend x as μ).calm := by
  unfold dAppend
  split
  · split <;> trivial
  · trivial
theorem cm_insert (x : D) (as : List D) (μ : Mem) : (dInsert x as μ).calm := by
  unfold dInsert
  split
  · split <;> trivial
  · trivial
theorem cm_pop (x : D) (as : List D) (μ : Mem) : (dPop x as μ).calm := by
  unfold dPop
  split
  · split <;> trivial
  · trivial
theorem cm_popAt (x : D) (as : List D) (μ : Mem) : (dPopAt x as μ).calm := by
  unfold dPopAt
  split
  · split
    · split <;> trivial
    · trivial
  · trivial
theorem cm_extend (x : D) (as : List D) (μ : Mem) : (dExtend x as μ).calm := by
  unfold dExtend
  split
  · split
    · split <;> trivial
    · trivial
  · trivial
theorem dropLast_rep {g : G} {ds : List D} {xs : List V} (r : RepL g ds xs) : RepL g ds.dropLast xs.dropLast := by
  rw [List.dropLast_eq_take, List.dropLast_eq_take, r.length]
  exact r.take _
section
variable {X : Cx} {F : Fx}
theorem md_append : MtR X "list.append" (rDM F dAppend) := by
  intro pins s σ H x xs v us Q I rx rxs h
  obtain ⟨g, a, ds, e, rfl, m, ra, rd, o⟩ := h
  unfold dAppend at o
  split at o
  · rename_i n es d hc
    split at o
    · obtain ⟨p, ys, rfl, hα, hμ, hH, t⟩ := cellL_rep m ra hc
      obtain ⟨w, rfl, rw'⟩ := one_rep rd
      exact mt_append pins s σ g.H _ _ v us Q I rx rxs ⟨p, ys, w, rfl, rfl, hH, by rw [← t.length]; assumption, out_put o m hα hμ (t.app (RepL.cons rw' RepL.nil)) rfl⟩
    · exact o.elim
  · exact o.elim
theorem md_insert : MtR X "list.insert" (rDM F dInsert) := by
  intro pins s σ H x xs v us Q I rx rxs h
  obtain ⟨g, a, ds, e, rfl, m, ra, rd, o⟩ := h
  unfold dInsert at o
  split at o
  · rename_i n es i d hc
    split at o
    · rename_i hh
      obtain ⟨p, ys, rfl, hα, hμ, hH, t⟩ := cellL_rep m ra hc
      obtain ⟨w1, w2, rfl, r1, r2⟩ := two_rep rd
      cases r1
      exact mt_insert pins s σ g.H _ _ v us Q I rx rxs ⟨p, ys, i, w2, rfl, rfl, hH, by rw [← t.length]; exact hh.1, hh.2.1, hh.2.2, out_put o m hα hμ (((t.take _).app (RepL.cons r2 RepL.nil)).app (t.drop _)) rfl⟩
    · exact o.elim
  · exact o.elim
theorem md_pop : MtR X "list.pop" (rDM F dPop) := by
  intro pins s σ H x xs v us Q I rx rxs h
  obtain ⟨g, a, ds, e, rfl, m, ra, rd, o⟩ := h
  unfold dPop at o
  split at o
  · rename_i n es hc
    split at o
    · rename_i d hd
      obtain ⟨p, ys, rfl, hα, hμ, hH, t⟩ := cellL_rep m ra hc
      cases rd
      obtain ⟨w, hw, rw'⟩ := t.get' hd
      rw [t.length] at hw
      exact mt_pop pins s σ g.H _ _ v us Q I rx rxs ⟨p, ys, w, rfl, rfl, hH, hw, out_put o m hα hμ (dropLast_rep t) rw'⟩
    · exact o.elim
  · exact o.elim
theorem md_popAt (hI : True := trivial) : MtR X "list.pop" (rDM F dPopAt) := by
  intro pins s σ H x xs v us Q I rx rxs h
  obtain ⟨g, a, ds, e, rfl, m, ra, rd, o⟩ := h
  unfold dPopAt at o
  split at o
  · rename_i n es i hc
    split at o
    · rename_i k hk
      split at o
      · rename_i d hd
        obtain ⟨p, ys, rfl, hα, hμ, hH, t⟩ := cellL_rep m ra hc
        obtain ⟨w1, rfl, r1⟩ := one_rep rd
        cases r1
        obtain ⟨w, hw, rw'⟩ := t.get' hd
        have z := ixN_seq hk
        have hs := (I.lstM hH).1
        have hl : es.length ≤ sizeLine := by rw [t.length]; exact hs
        have h63 := line63
        exact mt_popAt pins s σ g.H _ _ v us Q I rx rxs ⟨p, ys, i, k, w, rfl, rfl, hH, by omega, by omega, by rw [← t.length]; exact z.1, hw, out_put o m hα hμ (t.erase k) rw'⟩
      · exact o.elim
    · exact o.elim
  · exact o.elim
theorem md_extend : MtR X "list.extend" (rDM F dExtend) := by
  intro pins s σ H x xs v us Q I rx rxs h
  obtain ⟨g, a, ds, e, rfl, m, ra, rd, o⟩ := h
  unfold dExtend at o
  split at o
  · rename_i n es y hc
    split at o
    · rename_i zs hz
      split at o
      · rename_i hh
        obtain ⟨p, ys, rfl, hα, hμ, hH, t⟩ := cellL_rep m ra hc
        obtain ⟨w, rfl, rw'⟩ := one_rep rd
        obtain ⟨p2, vs, rfl, q2, t2⟩ := lstW_rep m rw' hz
        exact mt_extend pins s σ g.H _ _ v us Q I rx rxs ⟨p, p2, ys, vs, rfl, rfl, hH, q2, by rw [← t.length, ← t2.length]; exact hh, out_put o m hα hμ (t.app t2) rfl⟩
      · exact o.elim
    · exact o.elim
  · exact o.elim
end

/-! ### xs[i] = e, d[k] = e -/
def putKs (k : Key) (d : D) : List Key → List D → List Key × List D
  | j :: ks, v :: vs => if j = k then (j :: ks, d :: vs) else let p := putKs k d ks vs; (j :: p.1, v :: p.2)
  | _, _ => ([k], [d])
def cellD (μ : Mem) (x : D) : Option (Nat × List Key × List D) := match x with
  | .obj n => match μ[n]? with
    | some (.dic ks ds) => some (n, ks, ds)
    | _ => none
  | _ => none
def dSetItem (o i v : D) (μ : Mem) : Option Mem := match cellL μ o with
  | some (n, ds) => (match i with
    | .int j => (match ixN ds.length j with
      | some k => some (μ.set n (.lst (ds.set k v)))
      | none => none)
    | _ => none)
  | none => match cellD μ o, keyD i with
    | some (n, ks, ds), some k => if ks.length < sizeLine then some (μ.set n (.dic (putKs k v ks ds).1 (putKs k v ks ds).2)) else none
    | _, _ => none
theorem cellD_rep {g : G} (m : MemOk g) {x : D} {v : V} {n : Nat} {ks : List Key} {ds : List D} (r : Rep g x v) (h : cellD g.μ x = some (n, ks, ds)) : ∃ a xs, v = .ref a ∧ g.α[n]? = some a ∧ g.μ[n]? = some (.dic ks ds) ∧ g.H a = some (.dK (ks.zip xs)) ∧ ks.length = xs.length ∧ RepL g ds xs := by
  cases x with
  | obj k =>
    obtain ⟨a, q, rfl⟩ := r
    unfold cellD at h
    simp only at h
    split at h
    · rename_i es hc
      cases h
      obtain ⟨xs, h1, l, t⟩ := m.cells _ a _ q hc
      exact ⟨a, xs, rfl, q, hc, h1, l, t⟩
    · cases h
  | _ => cases h
theorem map_id_of {κ : Type} [DecidableEq κ] {kvs : List (κ × V)} {k : κ} {v : V} (h : (kvs.any fun kv => decide (kv.1 = k)) = false) : kvs.map (fun kv => if kv.1 = k then (kv.1, v) else kv) = kvs := by
  induction kvs with
  | nil => rfl
  | cons p r ih =>
    simp only [List.any_cons, Bool.or_eq_false_iff, decide_eq_false_iff_not] at h
    rw [List.map_cons, if_neg h.1, ih h.2]
theorem putKs_rep {g : G} {k : Key} {d : D} {v : V} (rd : Rep g d v) : ∀ {ks : List Key} {ds : List D} {xs : List V}, ks.length = xs.length → RepL g ds xs → ks.Nodup →
    ∃ ys, putK (ks.zip xs) k v = (putKs k d ks ds).1.zip ys ∧ (putKs k d ks ds).1.length = ys.length ∧ RepL g (putKs k d ks ds).2 ys
  | [], ds, xs, h, r, _ => by
    cases xs with
    | nil => exact ⟨[v], by simp [putK, putKs], by simp [putKs], by simp only [putKs]; exact RepL.cons rd RepL.nil⟩
    | cons _ _ => simp at h
  | j :: ks, [], xs, h, r, _ => by cases r; simp at h
  | j :: ks, e :: ds, _, h, r, nd => by
    obtain ⟨w, ws, rfl, r1, r2⟩ := r
    have hl : ks.length = ws.length := by simpa using h
    have nd2 := (List.nodup_cons.mp nd)
    by_cases ej : j = k
    · subst ej
      have hno : ((ks.zip ws).any fun kv => decide (kv.1 = j)) = false := by
        rw [List.any_eq_false]
        intro p hp
        simp only [decide_eq_true_eq]
        intro z
        exact nd2.1 (z ▸ (List.of_mem_zip (show (p.1, p.2) ∈ ks.zip ws from hp)).1)
      refine ⟨v :: ws, ?_, by simp [putKs, hl], ?_⟩
      · simp only [putKs, if_true, List.zip_cons_cons, putK, List.any_cons, decide_true, Bool.true_or, List.map_cons]
        rw [map_id_of hno]
      · simp only [putKs, if_true]
        exact RepL.cons rd r2
    · obtain ⟨ys, h1, h2, h3⟩ := putKs_rep (k := k) rd hl r2 nd2.2
      refine ⟨w :: ys, ?_, by simp [putKs, ej, h2], ?_⟩
      · simp only [putKs, ej, if_false, List.zip_cons_cons]
        rw [← h1]
        unfold putK
        simp only [List.any_cons, ej, decide_false, Bool.false_or, List.map_cons, if_false]
        by_cases hany : ((ks.zip ws).any fun kv => decide (kv.1 = k)) = true
        · rw [if_pos hany, if_pos hany]
        · rw [if_neg hany, if_neg hany]; rfl
      · simp only [putKs, ej, if_false]
        exact RepL.cons r1 h3
end Z

namespace Z
open PySem PySem.Spec PyProof.Rows L2

theorem dk_nodup {X : Cx} {pins : List (Addr × Obj)} {σ : L2.St} {H : Hp} {s : Shared} {a : Addr} {kvs : List (Key × V)} (I : Inv X pins σ H s) (h : H a = some (.dK kvs)) : (kvs.map (·.1)).Nodup := by
  obtain ⟨_, _, vs, rel, o, es, ep, _, _, _, _, _, nd⟩ := dk_of I.hok h
  rw [rel.keys]; exact nd
theorem zip_keys {ks : List Key} {xs : List V} (h : ks.length = xs.length) : (ks.zip xs).map (·.1) = ks := by
  rw [List.map_fst_zip]; omega
/-! ### o[i] = e -/
def rSetZ (F : Fx) : TSet := fun o i v H Q => ∃ (g : G) (a b c : D) (μ' : Mem), g.fx = F ∧ g.H = H ∧ MemOk g ∧ Rep g a o ∧ Rep g b i ∧ Rep g c v ∧ dSetItem a b c g.μ = some μ' ∧ ∀ g' : G, g'.μ = μ' → MemOk g' → Ext g g' → Q g'.H
section
variable {X : Cx} {F : Fx} {W : WX} {a b e o i : Expr} {fe fo fi : Sem} {pos pos' : Pos}
theorem set_any (hu : X.A.units + 70 < cLine) : PSet X (rSetZ F) := by
  intro pins s σ H o i v ov iv u Q I ro ri rv h
  obtain ⟨g, a, b, c, μ', e, rfl, m, ra, rb, rc, hs, q⟩ := h
  unfold dSetItem at hs
  split at hs
  · rename_i n ds hc
    split at hs
    · rename_i j
      split at hs
      · rename_i k hk
        cases hs
        obtain ⟨p, ys, rfl, hα, hμ, hH, t⟩ := cellL_rep m ra hc
        cases rb
        refine set_list pins s σ g.H _ _ v ov iv u Q I ro ri rv ⟨p, ys, j, k, rfl, rfl, hH, by rw [← t.length]; exact hk, ?_⟩
        exact q (g.wr n p (.lst (ys.set k v)) (.lst (ds.set k c))) rfl (m.wr hα hμ rfl ⟨_, upd_same, (RepL.set rc k t).mono (Ext.wr m hα hμ rfl)⟩) (Ext.wr m hα hμ rfl)
      · cases hs
    · cases hs
  · split at hs
    · rename_i n ks ds k h1 h2
      split at hs
      · rename_i hl
        cases hs
        obtain ⟨p, ys, rfl, hα, hμ, hH, l, t⟩ := cellD_rep m ra h1
        have e3 := keyD_rep rb h2
        subst e3
        have nd : ks.Nodup := by have := dk_nodup I hH; rwa [zip_keys l] at this
        obtain ⟨zs, z1, z2, z3⟩ := putKs_rep (k := k) rc l t nd
        refine set_dict (by omega) pins s σ g.H _ _ v ov iv u Q I ro ri rv ⟨p, _, rfl, DPut.k hH (by rw [List.length_zip, ← l, Nat.min_self]; exact hl), ?_⟩
        rw [z1]
        exact q (g.wr n p (.dK ((putKs k c ks ds).1.zip zs)) (.dic (putKs k c ks ds).1 (putKs k c ks ds).2)) rfl (m.wr hα hμ rfl ⟨zs, upd_same, z2, z3.mono (Ext.wr m hα hμ rfl)⟩) (Ext.wr m hα hμ rfl)
      · cases hs
    · cases hs
def sSetI (o i e : Sem) : SemS := fun ρ μ => (e ρ μ).s ρ fun v μ => (o ρ μ).s ρ fun x μ => (i ρ μ).s ρ fun k μ => match dSetItem x k v μ with
  | some μ' => .next ρ μ'
  | none => .bad
theorem ss_setI (hu : X.A.units + 70 < cLine) (ho : SE X F W o fo) (hi : SE X F W i fi) (he : SE X F W e fe)
    (ha : ∀ v, assign (.Subscript o i pos') X.env v = (do let ov ← holding [v] (eval o X.env); let iv ← holding [v, ov] (eval i X.env); standAt pos'; holding [v, ov, iv] (setItem ov iv v); release [v, ov, iv] []) := by intro _; rfl)
    (hs : swapsWithSole [.Subscript o i pos'] e pos.line X.env = pure false := by rfl) (hw : swappedStores [.Subscript o i pos'] e X.env = pure none := by rfl)
    (h1 : (assignEach [.Subscript o i pos'] X.env).map (·.2) = [assign (.Subscript o i pos') X.env] := by rfl) : SS X F W (.Assign [.Subscript o i pos'] e pos) (sSetI fo fi fe) :=
  PS.imp (ps_asg he (pg_sub ho hi (set_any hu) ha) hs hw h1) fun D σ H ⟨g, ρ, e1, e2, m, v, o⟩ => ⟨g, ρ, e1, e2, m, v, o.ex v fun d g1 w m1 x1 r1 o1 =>
    ⟨g1, ρ, x1.fx.trans e1, rfl, m1, v.mono x1, o1.ex (v.mono x1) fun y g2 yv m2 x2 r2 o2 =>
      ⟨g2, ρ, x2.fx.trans (x1.fx.trans e1), rfl, m2, (v.mono x1).mono x2, o2.ex ((v.mono x1).mono x2) fun k g3 kv m3 x3 r3 o3 => by
        cases hs : dSetItem y k d g3.μ with
        | none => simp only [hs] at o3; exact o3.elim
        | some μ' =>
          simp only [hs] at o3
          exact ⟨g3, y, k, d, μ', x3.fx.trans (x2.fx.trans (x1.fx.trans e1)), rfl, m3, r2.mono x3, r3, (r1.mono x2).mono x3, hs, fun g' e4 m4 x4 => o3 g' σ e4 m4 x4 (((v.mono x1).mono x2).mono (x3.trans x4))⟩⟩⟩⟩
/-! ### dicts -/
def fDict : Sem := fun _ μ => .ok (.obj μ.length) (μ ++ [.dic [] []])
theorem se_dict : SE X F W (.Dict [] [] pos) fDict := PE.imp pe_dnewK fun σ H Q ⟨g, ρ, e1, e2, m, v, o⟩ => by
  subst e2
  intro p hp
  exact o (g.new p (.dK []) (.dic [] [])) (.ref p) rfl (m.new hp ⟨[], upd_same, rfl, RepL.nil⟩) (Ext.new m hp) (new_at g m p _ _)
def dGet (x k d : D) (μ : Mem) : R D := match dicD μ x, keyD k with
  | some (ks, ds), some j => .ok ((lookD ks ds j).getD d) μ
  | _, _ => .bad
def fGet1 (o k : Sem) : Sem := fun ρ μ => (o ρ μ).bind fun x μ => match dicD μ x with
  | some _ => (k ρ μ).bind fun y μ => dGet x y .non μ
  | none => .bad
def fGet2 (o k d : Sem) : Sem := fun ρ μ => (o ρ μ).bind fun x μ => match dicD μ x with
  | some _ => (k ρ μ).bind fun y μ => (d ρ μ).bind fun z μ => dGet x y z μ
  | none => .bad
theorem dget_rep {g : G} (m : MemOk g) {x k d : D} {v w z : V} {E : XK} {Q : VK} (rx : Rep g x v) (rk : Rep g k w) (rd : Rep g d z) (o : Out Rep E g (dGet x k d g.μ) Q) : ∃ a op, v = .ref a ∧ DGet g.H a w op ∧ Q (op.getD z) g.H := by
  unfold dGet at o
  split at o
  · rename_i ks ds j h1 h2
    obtain ⟨p, xs, rfl, q, l, t⟩ := dicD_rep m rx h1
    have e3 := keyD_rep rk h2
    subst e3
    refine ⟨p, _, rfl, .inl ⟨_, _, q, rfl, rfl⟩, ?_⟩
    rcases lookD_rep (k := j) l t with ⟨z1, z2⟩ | ⟨d', w', z1, z2, rw'⟩
    · rw [z2]
      rw [z1] at o
      exact o.here m rd
    · rw [z2]
      rw [z1] at o
      exact o.here m rw'
  · exact o.elim
variable {f : Expr} {fk fd : Sem} {apos cpos : Pos}
theorem se_get1 (hu : X.A.units + 70 < cLine) (ho : SE X F W o fo) (he : SE X F W e fk) (m : M1 X o "get" apos e cpos := by exact ⟨rfl, rfl, rfl, rfl⟩) : SE X F W (.Call (.Attribute o "get" apos) [e] [] cpos) (fGet1 fo fk) :=
  PE.imp (pe_dget1 (by omega) ho he m) fun σ H Q h => tW.bind h fun g ρ x v e m w r o => by
    cases hd : dicD g.μ x with
    | none => simp only [hd] at o; exact o.elim
    | some p =>
      simp only [hd] at o
      obtain ⟨ks, ds⟩ := p
      obtain ⟨p, xs, rfl, q, l, t⟩ := dicD_rep m r hd
      refine ⟨p, rfl, .inl ⟨_, q⟩, g, ρ, e, rfl, m, w, o.bind fun y g1 u m1 x1 r1 o1 => ?_⟩
      obtain ⟨a, op, ea, dg, qq⟩ := dget_rep m1 (r.mono x1) r1 (d := .non) (z := .non) rfl o1
      cases ea
      exact ⟨op, dg, qq⟩
theorem se_get2 (hu : X.A.units + 70 < cLine) (ho : SE X F W o fo) (he : SE X F W e fk) (hf : SE X F W f fd) (m : M2 X o "get" apos e f cpos := by exact ⟨rfl, rfl, rfl, rfl⟩) : SE X F W (.Call (.Attribute o "get" apos) [e, f] [] cpos) (fGet2 fo fk fd) :=
  PE.imp (pe_dget2 (by omega) ho he hf m) fun σ H Q h => tW.bind h fun g ρ x v e m w r o => by
    cases hd : dicD g.μ x with
    | none => simp only [hd] at o; exact o.elim
    | some p =>
      simp only [hd] at o
      obtain ⟨ks, ds⟩ := p
      obtain ⟨p, xs, rfl, q, l, t⟩ := dicD_rep m r hd
      refine ⟨p, rfl, .inl ⟨_, q⟩, g, ρ, e, rfl, m, w, o.bind fun y g1 u m1 x1 r1 o1 => ⟨g1, ρ, x1.fx.trans e, rfl, m1, w.mono x1, o1.bind fun z g2 zv m2 x2 r2 o2 => ?_⟩⟩
      obtain ⟨a, op, ea, dg, qq⟩ := dget_rep m2 ((r.mono x1).mono x2) (r1.mono x2) r2 o2
      cases ea
      exact ⟨op, dg, qq⟩
end

/-! ### ranges, reversed lists -/
def rangeD (lo hi : Int) : List D := (List.range (hi - lo).toNat).map fun (i : Nat) => .int (lo + i)
def rg62 (i : Int) : Prop := -(2 ^ 62) ≤ i ∧ i < 2 ^ 62
instance (i : Int) : Decidable (rg62 i) := by unfold rg62; infer_instance
def iRg1 (a : Sem) : SemI := fun ρ μ => (a ρ μ).bind fun d μ => match d with
  | .int j => if rg62 j then .ok ⟨rangeD 0 j, none⟩ μ else .bad
  | _ => .bad
def iRg2 (a b : Sem) : SemI := fun ρ μ => (a ρ μ).bind fun d μ => (b ρ μ).bind fun e μ => match d, e with
  | .int i, .int j => if rg62 i ∧ rg62 j then .ok ⟨rangeD i j, none⟩ μ else .bad
  | _, _ => .bad
theorem repI_rg {g : G} {lo hi : Int} : RepI g ⟨rangeD lo hi, none⟩ (Itr lo (hi - lo).toNat) := fun g2 x m ok i => by
  refine ⟨fun d hd => ?_, fun e => ?_⟩
  · have hd' : (rangeD lo hi)[i]? = some d := hd
    unfold rangeD at hd'
    rw [List.getElem?_map] at hd'
    cases q : (List.range (hi - lo).toNat)[i]? with
    | none => rw [q] at hd'; cases hd'
    | some k =>
      rw [q] at hd'
      have e1 : d = .int (lo + k) := (Option.some.inj hd').symm
      have hi2 : i < (hi - lo).toNat := by have := (List.getElem?_eq_some_iff.mp q).1; simpa using this
      have e2 : k = i := by
        rw [List.getElem?_range hi2] at q
        exact (Option.some.inj q).symm
      subst e1; subst e2
      exact ⟨hi2, fun v H' ⟨h1, h2⟩ => ⟨g2, h1.symm, rfl, m, Ext.refl g2, h2⟩⟩
  · show (hi - lo).toNat ≤ i
    have : i = (rangeD lo hi).length := e
    unfold rangeD at this
    simp at this
    omega
def iRev (a : Sem) : SemI := fun ρ μ => (a ρ μ).bind fun x μ => match lstD μ x, wkD x μ with
  | some ds, some w => .ok ⟨ds.reverse, w.gd⟩ μ
  | _, _ => .bad
theorem wk_lst {μ : Mem} {x : D} {ds : List D} {w : Wk} (h1 : lstD μ x = some ds) (h2 : wkD x μ = some w) : w.ds = ds ∧ w.gd.ok μ := by
  cases x with
  | lst es => cases h1; cases h2; exact ⟨rfl, trivial⟩
  | sq es => cases h1; cases h2; exact ⟨rfl, trivial⟩
  | obj n =>
    cases e : μ[n]? with
    | none => simp [lstD, e] at h1
    | some c =>
      cases c with
      | lst es => simp [lstD, e] at h1; simp [wkD, e] at h2; subst h1; subst h2; exact ⟨rfl, e⟩
      | fz d =>
        cases d with
        | lst es => simp [lstD, e] at h1; simp [wkD, e] at h2; subst h1; subst h2; exact ⟨rfl, e⟩
        | _ => simp [lstD, e] at h1
      | _ => simp [lstD, e] at h1
  | _ => simp [lstD] at h1
theorem wk_keep {g g2 : G} (m2 : MemOk g2) (x2 : Ext g g2) {x : D} {v : V} {ds : List D} {w : Wk} (r : Rep g x v) (h1 : lstD g.μ x = some ds) (h2 : wkD x g.μ = some w) (ok : w.gd.ok g2.μ) : ∃ a xs, v = .ref a ∧ SqL g2.K g2.H a xs ∧ RepL g2 ds xs := by
  cases x with
  | lst es => cases h1; exact lstD_rep m2 (r.mono x2) rfl
  | sq es => cases h1; exact lstD_rep m2 (r.mono x2) rfl
  | obj n =>
    cases e : g.μ[n]? with
    | none => simp [lstD, e] at h1
    | some c =>
      cases c with
      | lst es =>
        simp [lstD, e] at h1; simp [wkD, e] at h2; subst h1; subst h2
        exact lstD_rep (ds := es) m2 (r.mono x2) (by have z : g2.μ[n]? = some (.lst es) := ok; simp [lstD, z])
      | fz d =>
        cases d with
        | lst es =>
          simp [lstD, e] at h1; simp [wkD, e] at h2; subst h1; subst h2
          exact lstD_rep (ds := es) m2 (r.mono x2) (by have z : g2.μ[n]? = some (.fz (.lst es)) := ok; simp [lstD, z])
        | _ => simp [lstD, e] at h1
      | _ => simp [lstD, e] at h1
  | _ => simp [lstD] at h1
theorem repI_rev {g : G} {K : PySem.W.Frag} (eK : g.K = K) {a : Addr} {ds : List D} {gd : Grd} (h : ∀ g2 : G, Ext g g2 → MemOk g2 → gd.ok g2.μ → ∃ xs, SqL K g2.H a xs ∧ RepL g2 ds xs) : RepI g ⟨ds.reverse, gd⟩ (Itv K a ds.length) := fun g2 x m ok i => by
  obtain ⟨xs, q, r⟩ := h g2 x m ok
  refine ⟨fun d hd => ?_, fun e => ?_⟩
  · have hd' : ds.reverse[i]? = some d := hd
    have hi : i < ds.length := by have := (List.getElem?_eq_some_iff.mp hd').1; simpa using this
    rw [List.getElem?_reverse hi] at hd'
    obtain ⟨v, hv, rv⟩ := r.get' hd'
    refine ⟨⟨hi, xs, v, q, hv⟩, fun y H' ⟨e1, f⟩ => ⟨g2, e1.symm, rfl, m, Ext.refl g2, ?_⟩⟩
    have := f xs q
    rw [hv] at this
    cases this
    exact rv
  · show ds.length ≤ i
    have : i = ds.reverse.length := e
    rw [List.length_reverse] at this
    omega
section
variable {X : Cx} {F : Fx} {W : WX} {tg a b : Expr} {fa fb : Sem} {p pos : Pos}
theorem si_rg1 (ha : SE X F W a fa) (hm : X.mg "range" = none) (hg : Gl X "range" := by rfl) (hs : starEach [a] X.env = [(false, eval a X.env)] := by rfl) : SI X F W tg (.Call (.Name "range" p) [a] [] pos) (iRg1 fa) := by
  intro pins s σ H RR I ⟨g, ρ, e1, e2, m, v, o⟩
  subst e2
  refine (pi_range1 hg hm (pa_cons ha pa_nil hs) hs).run pins s σ g.H RR I ⟨g, ρ, e1, rfl, m, v, Out.of_bind o fun d g1 w m1 x1 r1 o1 => ?_⟩
  cases d with
  | int j =>
    by_cases hj : rg62 j
    · simp only [hj, if_true] at o1
      cases r1
      exact ⟨j, rfl, hj.1, hj.2, o1 g1 _ rfl m1 (Ext.refl g1) ⟨by have := repI_rg (g := g1) (lo := 0) (hi := j); rwa [Int.sub_zero] at this, trivial⟩⟩
    · simp only [hj, if_false] at o1; exact o1.elim
  | _ => exact o1.elim
theorem si_rg2 (ha : SE X F W a fa) (hb : SE X F W b fb) (hm : X.mg "range" = none) (hg : Gl X "range" := by rfl) (hs : starEach [a, b] X.env = [(false, eval a X.env), (false, eval b X.env)] := by rfl) (hs2 : starEach [b] X.env = [(false, eval b X.env)] := by rfl) : SI X F W tg (.Call (.Name "range" p) [a, b] [] pos) (iRg2 fa fb) := by
  intro pins s σ H RR I ⟨g, ρ, e1, e2, m, v, o⟩
  subst e2
  refine (pi_range2 hg hm (pa_cons ha (pa_cons hb pa_nil hs2) (by rw [hs, hs2])) hs hs2).run pins s σ g.H RR I ⟨g, ρ, e1, rfl, m, v, Out.of_bind o fun d g1 w m1 x1 r1 o1 => ⟨g1, ρ, x1.fx.trans e1, rfl, m1, v.mono x1, Out.of_bind o1 fun e g2 u m2 x2 r2 o2 => ?_⟩⟩
  cases d with
  | int i =>
    cases e with
    | int j =>
      by_cases hj : rg62 i ∧ rg62 j
      · simp only [hj, and_self, if_true] at o2
        cases r1; cases r2
        exact ⟨i, j, rfl, ⟨hj.1.1, hj.1.2, hj.2.1, hj.2.2⟩, o2 g2 _ rfl m2 (Ext.refl g2) ⟨repI_rg, trivial⟩⟩
      · simp only [hj, if_false] at o2; exact o2.elim
    | _ => exact o2.elim
  | _ => exact o2.elim
theorem si_rev (hF : F.K = X.K) (ha : SE X F W a fa) (hm : X.mg "reversed" = none) (hg : Gl X "reversed" := by rfl) (hs : starEach [a] X.env = [(false, eval a X.env)] := by rfl) : SI X F W tg (.Call (.Name "reversed" p) [a] [] pos) (iRev fa) := by
  intro pins s σ H RR I ⟨g, ρ, e1, e2, m, v, o⟩
  subst e2
  refine (pi_reversed hg hm (pa_cons ha pa_nil hs) hs).run pins s σ g.H RR I ⟨g, ρ, e1, rfl, m, v, Out.of_bind o fun d g1 w m1 x1 r1 o1 => ?_⟩
  have eK := fxK (x1.fx.trans e1) hF
  cases h1 : lstD g1.μ d with
  | none => simp only [h1] at o1; exact o1.elim
  | some ds =>
    cases h2 : wkD d g1.μ with
    | none => simp only [h1, h2] at o1; exact o1.elim
    | some wk =>
      simp only [h1, h2] at o1
      obtain ⟨p, xs, rfl, q, t⟩ := lstD_rep m1 r1 h1
      refine ⟨p, xs, rfl, eK ▸ q, ?_⟩
      rw [← t.length]
      refine o1 g1 _ rfl m1 (Ext.refl g1) ⟨repI_rev eK fun g2 x2 m2 ok => ?_, (wk_lst h1 h2).2⟩
      obtain ⟨p2, ys, e3, q2, t2⟩ := wk_keep m2 x2 r1 h1 h2 ok
      cases e3
      exact ⟨ys, (x2.k.trans eK) ▸ q2, t2⟩
end
/-! ### a module's constants -/
section
variable {X : Cx} {F : Fx} {W : WX} {x : Str} {pos : Pos}
/-- a constant of the module -/
structure Con1 (mg : Str → Option Value) (x : Str) (d : D) : Prop where
  ex : ∃ (v : V) (u : Value), mg x = some u ∧ RelV v u ∧ ∀ g : G, Rep g d v
theorem se_gl {d : D} (h : Con1 X.mg x d) (hg : Gl X x := by rfl) (hd : (x == ("__debug__" : Str)) = false := by decide) : SE X F W (.Name x pos) (fC d) := by
  obtain ⟨v, u, hm, r, rep⟩ := h.ex
  exact PE.imp (pe_glob hg hm r hd) fun σ H Q ⟨g, ρ, _, e2, m, _, o⟩ => by subst e2; exact Out.here (a := d) o m (rep g)
end
/-! ### raise -/
structure XCls (K : PySem.W.Frag) (mg : Str → Option Value) (xc : Str → Option Addr) (c : Str) : Prop where
  ex : ∃ C : Addr, mg c = some (.ref C) ∧ xc c = some C ∧ PySem.W.excIn K C [.type "ValueError", .type "Exception", .type "BaseException", .type "object"] "ValueError.__new__" = true ∧ PySem.W.keepIn K (.ref C) = true ∧
    PySem.W.subIn K (.ref C) (.type "BaseException") = some true ∧ PySem.W.typeIn K (.ref C) = some (.type "type")
def sRaise (c : Str) (es : SemA) : SemS := fun ρ μ => (es ρ μ).s ρ fun ds μ => if ds.length ≤ sizeLine then .exc ⟨c, []⟩ ρ μ else .bad
section
variable {X : Cx} {F : Fx} {W : WX} {c : Str} {e : Expr} {es : List Expr} {fa : SemA} {p pos rpos : Pos}
theorem ss_raise (h : XCls X.K X.mg F.xc c) (hc : X.calm = true) (tk : Takes X W) (ha : SA X F W (e :: es) fa) (hg : Gl X c := by rfl) (hdb : (c == ("__debug__" : Str)) = false := by decide)
    (he : starEach (e :: es) X.env = (false, eval e X.env) :: starEach es X.env := by rfl) (hpl : (backTo pos (starEach es X.env)).any (·.1) = false := by rfl) : SS X F W (.Raise (some (.Call (.Name c p) (e :: es) [] pos)) none rpos) (sRaise c fa) := by
  obtain ⟨C, gC, xC, qC, kC, bC, tC⟩ := h.ex
  refine PS.imp (ps_raise hc tk (pmk_ownA PySem.F.excBase_ValueError qC gC kC (raises_own bC tC) hg ha hdb he hpl)) fun D σ H ⟨g, ρ, e1, e2, m, v, o⟩ => ?_
  refine ⟨g, ρ, e1, e2, m, v, o.ex v fun ds g1 vs m1 x1 r1 o1 => ?_⟩
  split at o1
  · rename_i hl
    rw [r1.length] at hl
    refine ⟨hl, ?_⟩
    exact o1 g1 σ (.ref C) none rfl m1 (Ext.refl g1) (v.mono x1) ⟨C, by have := x1.fx.trans e1; rw [← this] at xC; exact xC, rfl, .inl ⟨rfl, rfl⟩⟩
  · exact o1.elim
end
end Z

namespace Z
open PySem PySem.Spec PyProof.Rows L2

/-! ### sorted -/
abbrev SKey := List (Int ⊕ List Nat)
def keyI : D → Option (Int ⊕ List Nat)
  | .int i => some (.inl i)
  | .str x => some (.inr x.cps.toList)
  | _ => none
def keyIs : List D → Option SKey
  | [] => some []
  | d :: ds => match keyI d, keyIs ds with
    | some k, some ks => some (k :: ks)
    | _, _ => none
/-- the key of a datum: an int, a text, a tuple of those -/
def keyS : D → Option SKey
  | .int i => some [.inl i]
  | .str x => some [.inr x.cps.toList]
  | .tup ds => keyIs ds
  | _ => none
def kS (d : D) : SKey := (keyS d).getD []
def leK (a b : SKey) : Bool := !(listOrd itemOrd).blt b a
def leD (a b : D) : Bool := leK (kS a) (kS b)
def sortD (ds : List D) : List D := ds.mergeSort leD
theorem leK_trans (a b c : SKey) (h1 : leK a b = true) (h2 : leK b c = true) : leK a c = true := by
  have k1 : (listOrd itemOrd).kle a b := by unfold leK at h1; unfold KeyOrd.kle; simpa using h1
  have k2 : (listOrd itemOrd).kle b c := by unfold leK at h2; unfold KeyOrd.kle; simpa using h2
  have := KeyOrd.kle_trans k1 k2
  unfold KeyOrd.kle at this
  unfold leK
  rw [this]; rfl
theorem leK_total (a b : SKey) : (leK a b || leK b a) = true := by
  unfold leK
  cases e : (listOrd itemOrd).blt b a with
  | false => rfl
  | true =>
    have := KeyOrd.klt_asymm (O := listOrd itemOrd) e
    unfold KeyOrd.kle at this
    rw [this]; rfl
theorem leK_anti {a b : SKey} (h1 : leK a b = true) (h2 : leK b a = true) : a = b := by
  have k1 : (listOrd itemOrd).kle a b := by unfold leK at h1; unfold KeyOrd.kle; simpa using h1
  have k2 : (listOrd itemOrd).kle b a := by unfold leK at h2; unfold KeyOrd.kle; simpa using h2
  exact KeyOrd.kle_antisymm k1 k2
theorem str_ext {x y : Str} (h : x.cps.toList = y.cps.toList) : x = y := by
  cases x; cases y
  simp only at h
  rw [Array.toList_inj] at h
  rw [h]
theorem keyI_inj {a b : D} {k : Int ⊕ List Nat} (h1 : keyI a = some k) (h2 : keyI b = some k) : a = b := by
  cases a with
  | int i => cases h1; cases b with
    | int j => cases h2; rfl
    | str y => cases h2
    | _ => cases h2
  | str x => cases h1; cases b with
    | int j => cases h2
    | str y => rw [str_ext (Sum.inr.inj (Option.some.inj h2)).symm]
    | _ => cases h2
  | _ => cases h1
theorem keyIs_inj : ∀ {as bs : List D} {k : SKey}, keyIs as = some k → keyIs bs = some k → as = bs
  | [], [], _, _, _ => rfl
  | [], b :: bs, _, h1, h2 => by
    cases h1
    unfold keyIs at h2
    split at h2 <;> cases h2
  | a :: as, [], _, h1, h2 => by
    cases h2
    unfold keyIs at h1
    split at h1 <;> cases h1
  | a :: as, b :: bs, _, h1, h2 => by
    unfold keyIs at h1 h2
    split at h1
    · rename_i k1 k2 e1 e2
      cases h1
      split at h2
      · rename_i k3 k4 e3 e4
        cases h2
        rw [keyI_inj e1 e3, keyIs_inj e2 e4]
      · cases h2
    · cases h1
/-- the form of the items of a list that is sorted -/
inductive Frm where
  | ints | strs | tups (sh : List Bool)
deriving DecidableEq
def shI : List D → List Bool
  | [] => []
  | .str _ :: ds => true :: shI ds
  | _ :: ds => false :: shI ds
def frmD : D → Option Frm
  | .int _ => some .ints
  | .str _ => some .strs
  | .tup ds => if (keyIs ds).isSome then some (.tups (shI ds)) else none
  | _ => none
theorem frm_tup {ds : List D} {f : Frm} (h : frmD (.tup ds) = some f) : f = .tups (shI ds) ∧ ∃ k, keyIs ds = some k := by
  unfold frmD at h
  simp only at h
  split at h
  · rename_i e
    exact ⟨(Option.some.inj h).symm, Option.isSome_iff_exists.mp e⟩
  · cases h
theorem kS_inj {a b : D} {f : Frm} (h1 : frmD a = some f) (h2 : frmD b = some f) (h : kS a = kS b) : a = b := by
  cases a with
  | int i =>
    have h1 := Option.some.inj h1
    subst h1
    cases b with
    | int j => have : ([Sum.inl i] : SKey) = [.inl j] := h; cases this; rfl
    | str y => exact absurd h2 (by intro z; cases z)
    | tup ds => exact absurd (frm_tup h2).1 (by intro z; cases z)
    | _ => exact absurd h2 (by intro z; cases z)
  | str x =>
    have h1 := Option.some.inj h1
    subst h1
    cases b with
    | int j => exact absurd h2 (by intro z; cases z)
    | str y =>
      have : ([Sum.inr x.cps.toList] : SKey) = [.inr y.cps.toList] := h
      rw [str_ext (Sum.inr.inj (List.cons.inj this).1)]
    | tup ds => exact absurd (frm_tup h2).1 (by intro z; cases z)
    | _ => exact absurd h2 (by intro z; cases z)
  | tup as =>
    obtain ⟨rfl, k1, q1⟩ := frm_tup h1
    cases b with
    | tup bs =>
      obtain ⟨_, k2, q2⟩ := frm_tup h2
      have : (keyIs as).getD [] = (keyIs bs).getD [] := h
      rw [q1, q2] at this
      have : k1 = k2 := this
      subst this
      rw [keyIs_inj q1 q2]
    | _ => exact absurd h2 (by intro z; cases z)
  | _ => exact absurd h1 (by intro z; cases z)
theorem sortD_perm (ds : List D) : (sortD ds).Perm ds := List.mergeSort_perm ds leD
theorem sortD_sorted (ds : List D) : (sortD ds).Pairwise fun a b => leD a b = true :=
  List.pairwise_mergeSort (fun a b c => leK_trans (kS a) (kS b) (kS c)) (fun a b => leK_total (kS a) (kS b)) ds
/-- a sorted rearrangement is the sorted one -/
theorem sortD_uniq {f : Frm} {ds es : List D} (hf : ∀ d ∈ ds, frmD d = some f) (p : es.Perm ds) (s : es.Pairwise fun a b => leD a b = true) : es = sortD ds := by
  refine List.Perm.eq_of_pairwise (le := fun a b => leD a b = true) (fun a b ha hb h1 h2 => ?_) s (sortD_sorted ds) (p.trans (sortD_perm ds).symm)
  exact kS_inj (hf a (p.mem_iff.mp ha)) (hf b ((sortD_perm ds).mem_iff.mp hb)) (leK_anti h1 h2)
def frmOk (ds : List D) : Option Frm := match ds with
  | [] => some .ints
  | d :: ds => match frmD d with
    | some f => if ds.all (fun e => frmD e = some f) then some f else none
    | none => none
theorem frmOk_all {ds : List D} {f : Frm} (h : frmOk ds = some f) : ∀ d ∈ ds, frmD d = some f := by
  cases ds with
  | nil => intro d hd; cases hd
  | cons d ds =>
    unfold frmOk at h
    simp only at h
    cases e : frmD d with
    | none => rw [e] at h; cases h
    | some f' =>
      rw [e] at h
      simp only at h
      split at h
      · rename_i ha
        cases h
        intro x hx
        rcases List.mem_cons.mp hx with rfl | hx
        · exact e
        · exact of_decide_eq_true (List.all_eq_true.mp ha x hx)
      · cases h
def dSort : DFl := fun ds μ => match ds with
  | [x] => (match lstD μ x with
    | some ys => (match frmOk ys with
      | some .ints => .ok (sortD ys) μ
      | some .strs => if ys.length < 64 then .ok (sortD ys) μ else .bad
      | some (.tups sh) => if sh ≠ [] then .ok (sortD ys) μ else .bad
      | none => .bad)
    | none => .bad)
  | _ => .bad
theorem cm_sort (ds : List D) (μ : Mem) : (dSort ds μ).calm := by
  unfold dSort
  split
  · split
    · split
      · trivial
      · split <;> trivial
      · split <;> trivial
      · trivial
    · trivial
  · trivial
theorem ints_of_frm : ∀ {ds : List D}, (∀ d ∈ ds, frmD d = some .ints) → ∃ ns, intsD ds = some ns
  | [], _ => ⟨[], rfl⟩
  | d :: ds, h => by
    obtain ⟨ns, e⟩ := ints_of_frm (ds := ds) fun d hd => h d (List.mem_cons_of_mem _ hd)
    have := h d List.mem_cons_self
    cases d with
    | int i => exact ⟨i :: ns, by simp only [intsD, e]; rfl⟩
    | tup ds => exact absurd (frm_tup this).1 (by intro z; cases z)
    | _ => cases this
theorem strs_of_frm : ∀ {ds : List D}, (∀ d ∈ ds, frmD d = some .strs) → ∃ ns, strsD ds = some ns
  | [], _ => ⟨[], rfl⟩
  | d :: ds, h => by
    obtain ⟨ns, e⟩ := strs_of_frm (ds := ds) fun d hd => h d (List.mem_cons_of_mem _ hd)
    have := h d List.mem_cons_self
    cases d with
    | str i => exact ⟨i :: ns, by simp only [strsD, e]; rfl⟩
    | tup ds => exact absurd (frm_tup this).1 (by intro z; cases z)
    | _ => cases this
theorem rep_ints {g : G} : ∀ ns : List Int, RepL g (ns.map D.int) (ns.map V.int)
  | [] => rfl
  | n :: ns => RepL.cons rfl (rep_ints ns)
theorem rep_strs {g : G} : ∀ ns : List Str, RepL g (ns.map D.str) (ns.map V.str)
  | [] => rfl
  | n :: ns => RepL.cons rfl (rep_strs ns)
theorem intsD_map : ∀ {ds : List D} {ns : List Int}, intsD ds = some ns → ds = ns.map D.int
  | [], _, h => by cases h; rfl
  | d :: ds, ns, h => by
    cases d with
    | int i =>
      simp only [intsD] at h
      cases e : intsD ds with
      | none => rw [e] at h; cases h
      | some ms => rw [e] at h; cases h; rw [intsD_map e]; rfl
    | _ => simp [intsD] at h
theorem strsD_map : ∀ {ds : List D} {ns : List Str}, strsD ds = some ns → ds = ns.map D.str
  | [], _, h => by cases h; rfl
  | d :: ds, ns, h => by
    cases d with
    | str i =>
      simp only [strsD] at h
      cases e : strsD ds with
      | none => rw [e] at h; cases h
      | some ms => rw [e] at h; cases h; rw [strsD_map e]; rfl
    | _ => simp [strsD] at h
theorem leD_int (i j : Int) : leD (.int i) (.int j) = decide (i ≤ j) := by
  show (!(decide (j < i) || (!(decide (i < j)) && false))) = _
  by_cases h : j < i
  · simp [h, Int.not_le.mpr h]
  · simp [h, Int.not_lt.mp h]
theorem RepL.perm {g : G} {xs ys : List V} (p : ys.Perm xs) : ∀ {ds : List D}, RepL g ds xs → ∃ es, es.Perm ds ∧ RepL g es ys := by
  induction p with
  | nil => intro ds r; exact ⟨ds, .refl _, r⟩
  | cons x p ih =>
    intro ds r
    cases ds with
    | nil => cases r
    | cons d ds =>
      obtain ⟨v, vs, e, r1, r2⟩ := r
      cases e
      obtain ⟨es, p', r'⟩ := ih r2
      exact ⟨d :: es, p'.cons d, RepL.cons r1 r'⟩
  | swap x y l =>
    intro ds r
    cases ds with
    | nil => cases r
    | cons d ds =>
      obtain ⟨v, vs, e, r1, r2⟩ := r
      cases e
      cases ds with
      | nil => cases r2
      | cons d2 ds =>
        obtain ⟨v, vs, e, r3, r4⟩ := r2
        cases e
        exact ⟨d2 :: d :: ds, .swap _ _ _, RepL.cons r3 (RepL.cons r1 r4)⟩
  | trans p1 p2 ih1 ih2 =>
    intro ds r
    obtain ⟨es, q1, r1⟩ := ih2 r
    obtain ⟨fs, q2, r2⟩ := ih1 r1
    exact ⟨fs, q2.trans q1, r2⟩
theorem tupItems_of {g : G} {sh : Nat → Bool} : ∀ {es : List D} {vs : List V} {us : List Value} {k : SKey} {i : Nat}, RepL g es vs → Vals vs us → keyIs es = some k → (∀ j, j < es.length → sh (i + j) = (shI es).getD j false) → tupItems sh i us = some k
  | [], _, _, _, _, r, v, e, _ => by cases r; cases v; cases e; rfl
  | d :: es, _, _, k, i, ⟨x, vs, e, r1, r2⟩, v, ek, hs => by
    subst e
    cases v with
    | cons v1 v2 =>
      rename_i u us
      unfold keyIs at ek
      split at ek
      · rename_i k1 k2 e1 e2
        cases ek
        have h0 := hs 0 (by simp)
        have hn : ∀ j, j < es.length → sh (i + 1 + j) = (shI es).getD j false := fun j hj => by
          have := hs (j + 1) (by simp; omega)
          rw [show i + 1 + j = i + (j + 1) by omega, this]
          cases d <;> rfl
        have ih := tupItems_of r2 v2 e2 hn
        cases d with
        | int n =>
          cases e1
          cases r1
          obtain ⟨t, rfl⟩ := v1
          have h0' : sh i = false := h0
          show (if sh i = true then none else (tupItems sh (i + 1) us).map (Sum.inl n :: ·)) = _
          rw [h0', ih]; rfl
        | str y =>
          cases e1
          cases r1
          obtain ⟨t, rfl⟩ := v1
          have h0' : sh i = true := h0
          show (if sh i = true then (tupItems sh (i + 1) us).map (Sum.inr y.cps.toList :: ·) else none) = _
          rw [h0', ih]; rfl
        | _ => cases e1
      · cases ek
theorem tupsOf_of {h : Heap} {sh : Nat → Bool} : ∀ {vs : List Value}, (∀ v ∈ vs, ∃ f, TupOf h sh v f) → ∃ fs, TupsOf h sh vs fs
  | [], _ => ⟨[], .nil⟩
  | v :: vs, hv => by
    obtain ⟨f, t⟩ := hv v List.mem_cons_self
    obtain ⟨fs, ts⟩ := tupsOf_of fun u hu => hv u (List.mem_cons_of_mem _ hu)
    exact ⟨f :: fs, .cons t ts⟩
theorem shI_len : ∀ es : List D, (shI es).length = es.length
  | [] => rfl
  | d :: es => by cases d <;> simp [shI, shI_len es]
theorem tupKeyC_of' {h : Heap} {shape : Nat → Bool} {a : Addr} {o : Obj} {xs : Array Value} {n : Nat} {l : SKey} (ho : h.get? a = some o) (hc : o.cls = .type "tuple") (hd : o.data = .seq xs n) (hi : tupItems shape 0 xs.toList = some l) :
    PyProof.Rows.G.tupKeyC h shape (.ref a) = some l := by
  unfold PyProof.Rows.G.tupKeyC
  have h1 : PyProof.Rows.G.isTupObj h (.ref a) = true := by
    simp only [PyProof.Rows.G.isTupObj, ho, hc]
    rfl
  rw [if_pos h1]
  simp only [tupKey, ho, hd]
  exact hi
section
variable {X : Cx} {F : Fx}
theorem tup_at {pins : List (Addr × Obj)} {σ : L2.St} {s : Shared} {g : G} (eK : g.K = X.K) (I : Inv X pins σ g.H s) {d : D} {x : V} {u : Value} {sh : List Bool} (hne : sh ≠ []) (r : Rep g d x) (ru : RelV x u) (hf : frmD d = some (.tups sh)) :
    PyProof.Rows.G.tupKeyC s.heap (fun i => sh.getD i false) u = some (kS d) ∧ (∃ a, x = .ref a) ∧ ∃ f, TupOf s.heap (fun i => sh.getD i false) u f := by
  cases d with
  | tup es =>
    obtain ⟨e1, k, hk⟩ := frm_tup hf
    cases e1
    obtain ⟨a, vs, rfl, q, t⟩ := r
    cases (show u = Value.ref a from ru)
    obtain ⟨its, rv, ⟨o, ho, hc, n, hd⟩, _⟩ := I.tuple (eK ▸ q.sq)
    have hi := tupItems_of (sh := fun i => (shI es).getD i false) (i := 0) t rv hk (fun j _ => by simp)
    have ek : kS (.tup es) = k := by show (keyIs es).getD [] = k; rw [hk]; rfl
    rw [ek]
    refine ⟨tupKeyC_of' ho hc hd (by simpa using hi), ⟨a, rfl⟩, ?_⟩
    cases es with
    | nil => exact absurd rfl hne
    | cons d0 es =>
      obtain ⟨x0, vs0, e0, r0, t0⟩ := t
      subst e0
      cases rv with
      | cons v0 v1 =>
        rename_i u0 us0
        refine ⟨u0, a, o, _, n, rfl, ho, hc, hd, rfl, fun h => ?_, fun h => ?_⟩
        · cases d0 with
          | int i => cases r0; obtain ⟨t, e⟩ := v0; exact ⟨_, t, e⟩
          | str y => exact absurd h (by simp [shI])
          | _ => (unfold keyIs at hk; simp [keyI] at hk)
        · cases d0 with
          | str y => cases r0; obtain ⟨t, e⟩ := v0; exact ⟨_, t, e⟩
          | _ => exact absurd h (by simp [shI])
  | _ => exact absurd hf (by intro z; cases z)
theorem get_of_mem {α : Type} {l : List α} {i : Nat} (h : i < l.length) : l[i]? = some l[i] := List.getElem?_eq_getElem h
theorem sorted_es {pins : List (Addr × Obj)} {σ : L2.St} {s : Shared} {g : G} (eK : g.K = X.K) (I : Inv X pins σ g.H s) {sh : List Bool} (hne : sh ≠ []) {ds : List D} {xs : List V} {its : List Value} (hf : ∀ d ∈ ds, frmD d = some (.tups sh))
    (t : RepL g ds xs) (rv : Vals xs its) {arr : Array Keyed} (hp : arr.Perm (pairsOf its)) (hs : SortedToK (PyProof.Rows.G.tupKindC s.heap (fun i => sh.getD i false)) arr (pairsOf its).size) :
    RepL g (sortD ds) ((arr.map (·.2)).toList.map backV) ∧ ∀ u ∈ (arr.map (·.2)).toList, ∃ a, u = Value.ref a := by
  have hp' : arr.toList.Perm (its.zip its) := by
    have := Array.perm_iff_toList_perm.mp hp
    rwa [pairsOf_toList] at this
  have hall : ∀ p ∈ arr.toList, p.1 = p.2 ∧ p.2 ∈ its := fun p m => by
    have := mem_zip_self (hp'.mem_iff.mp m)
    exact ⟨this.1, this.1 ▸ this.2⟩
  have ep : (arr.map (·.2)).toList = arr.toList.map (·.2) := by simp
  have hout : (arr.toList.map (·.2)).Perm its := by
    have := hp'.map (·.2)
    rwa [List.map_snd_zip (Nat.le_refl _)] at this
  have hx : ∀ x ∈ xs, ∃ a, x = V.ref a := fun x m => by
    obtain ⟨i, hi, e⟩ := List.getElem_of_mem m
    obtain ⟨d, hd, rd⟩ := t.get (get_of_mem hi)
    rw [e] at rd
    obtain ⟨u, hu, ru⟩ := rv.get (get_of_mem hi)
    rw [e] at ru
    exact (tup_at eK I hne rd ru (hf d (List.mem_of_getElem? hd))).2.1
  obtain ⟨e1, e2⟩ := refs_back rv hx
  rw [ep]
  have e3 : ∀ u ∈ arr.toList.map (·.2), ∃ a, u = Value.ref a := fun u hu => e2 u (hout.mem_iff.mp hu)
  refine ⟨?_, e3⟩
  have pV : ((arr.toList.map (·.2)).map backV).Perm xs := by rw [e1]; exact hout.map backV
  obtain ⟨es, p, r⟩ := RepL.perm pV t
  have hfe : ∀ d ∈ es, frmD d = some (.tups sh) := fun d hd => hf d (p.mem_iff.mp hd)
  have hlen : es.length = arr.size := by rw [r.length]; simp
  have hkey : ∀ (i : Nat) (hi : i < es.length), KK (PyProof.Rows.G.tupKindC s.heap (fun i => sh.getD i false)) arr i = kS es[i] := fun i hi => by
    have ha : i < arr.toList.length := by simp; omega
    have hav : arr[i]? = some arr.toList[i] := by simp
    have hm : arr.toList[i] ∈ arr.toList := List.getElem_mem ha
    obtain ⟨x, hxx, rx⟩ := r.get' (get_of_mem hi)
    have hx2 : ((arr.toList.map (·.2)).map backV)[i]? = some (backV arr.toList[i].2) := by rw [List.getElem?_map, List.getElem?_map, get_of_mem ha]; rfl
    rw [hx2] at hxx
    have ex := (Option.some.inj hxx).symm
    obtain ⟨a, ea⟩ := e3 arr.toList[i].2 (List.mem_map.mpr ⟨_, hm, rfl⟩)
    have ru : RelV x arr.toList[i].2 := by rw [ex, ea]; exact rfl
    have := (tup_at eK I hne rx ru (hfe _ (List.getElem_mem hi))).1
    unfold KK
    rw [hav]
    show (PyProof.Rows.G.tupKeyC s.heap (fun i => sh.getD i false) arr.toList[i].1).getD [] = _
    rw [(hall _ hm).1, this]; rfl
  have srt : es.Pairwise fun a b => leD a b = true := by
    rw [List.pairwise_iff_getElem]
    intro i j hi hj hij
    have hsz : (pairsOf its).size = arr.size := hp.size_eq.symm
    have := hs i j (Nat.le_of_lt hij) (by rw [hsz, ← hlen]; exact hj)
    rw [hkey i hi, hkey j hj] at this
    show (!(listOrd itemOrd).blt (kS es[j]) (kS es[i])) = true
    have z : (listOrd itemOrd).blt (kS es[j]) (kS es[i]) = false := this
    rw [z]; rfl
  rw [← sortD_uniq hf p srt]
  exact r
theorem ltCps_dec : ∀ x y : List Nat, ltCps x y = decide (x < y)
  | [], [] => by simp [ltCps]
  | [], _ :: _ => by simp [ltCps]
  | _ :: _, [] => by simp [ltCps]
  | a :: r, b :: t => by
    simp only [ltCps, ltCps_dec r t]
    rw [Bool.eq_iff_iff]
    simp [List.cons_lt_cons_iff]
theorem leD_str (x y : Str) : leD (.str x) (.str y) = !ltCps y.cps.toList x.cps.toList := by
  rw [ltCps_dec]
  show (!(decide (y.cps.toList < x.cps.toList) || (!(decide (x.cps.toList < y.cps.toList)) && false))) = _
  simp
theorem leD_trans {a b c : D} (h1 : leD a b = true) (h2 : leD b c = true) : leD a c = true := leK_trans _ _ _ h1 h2
theorem rising_all : ∀ {ys : List Str} {x : Str}, risingS x ys = true → (∀ y ∈ ys, leD (.str x) (.str y) = true) ∧ (ys.map D.str).Pairwise fun a b => leD a b = true
  | [], _, _ => ⟨fun y hy => absurd hy (by simp), List.Pairwise.nil⟩
  | y :: ys, x, h => by
    simp only [risingS, Bool.and_eq_true] at h
    obtain ⟨h1, h2⟩ := h
    obtain ⟨k1, k2⟩ := rising_all h2
    have e : leD (.str x) (.str y) = true := by rw [leD_str]; exact h1
    refine ⟨fun z hz => ?_, ?_⟩
    · rcases List.mem_cons.mp hz with rfl | hz
      · exact e
      · exact leD_trans e (k1 z hz)
    · refine List.Pairwise.cons (fun d hd => ?_) k2
      obtain ⟨z, hz, rfl⟩ := List.mem_map.mp hd
      exact k1 z hz
theorem rising_le {ys : List Str} (h : sortedS ys = true) : (ys.map D.str).Pairwise fun a b => leD a b = true := by
  cases ys with
  | nil => exact List.Pairwise.nil
  | cons x ys =>
    obtain ⟨k1, k2⟩ := rising_all (x := x) (ys := ys) h
    refine List.Pairwise.cons (fun d hd => ?_) k2
    obtain ⟨z, hz, rfl⟩ := List.mem_map.mp hd
    exact k1 z hz
theorem cf_sort (hF : F.K = X.K) : CallR X (.builtin "sorted") (rDF F dSort) := by
  intro pins s σ H vs us Q I r h
  obtain ⟨g, ds, e, rfl, m, rr, o⟩ := h
  have eK := fxK e hF
  unfold dSort at o
  split at o
  · obtain ⟨v, rfl, rx⟩ := one_rep rr
    split at o
    · rename_i ys hl
      obtain ⟨p, xs, rfl, q, t⟩ := lstD_rep m rx hl
      split at o
      · rename_i hk
        have hf := frmOk_all hk
        obtain ⟨ns, en⟩ := ints_of_frm hf
        have ex := intsD_rep t en
        subst ex
        refine cr_sortedI pins s σ g.H _ us Q I r ⟨p, ns, rfl, eK ▸ q, fun ns' p' hp hs hn => ?_⟩
        have e2 : ns'.map D.int = sortD ys := by
          refine sortD_uniq hf ?_ ?_
          · rw [intsD_map en]; exact hp.map _
          · rw [List.pairwise_map]
            exact hs.imp fun {a b} h => by rw [leD_int]; exact decide_eq_true h
        exact Out.here (a := _) o m (e2 ▸ rep_ints ns') p' hn
      · rename_i hk
        have hf := frmOk_all hk
        obtain ⟨ns, en⟩ := strs_of_frm hf
        have ex := strsD_rep t en
        subst ex
        split at o
        · rename_i h64
          have hlen : ns.length < 64 := by rw [strsD_map en] at h64; simpa using h64
          refine cr_sortedS pins s σ g.H _ us Q I r ⟨p, ns, rfl, eK ▸ q, hlen, fun ns' p' hp hs hn => ?_⟩
          have e2 : ns'.map D.str = sortD ys := by
            refine sortD_uniq hf ?_ (rising_le hs)
            rw [strsD_map en]; exact hp.map _
          exact Out.here (a := _) o m (e2 ▸ rep_strs ns') p' hn
        · exact o.elim
      · rename_i sh hk
        have hf := frmOk_all hk
        split at o
        · rename_i hne
          obtain ⟨its, rv, hl2, hz⟩ := I.list (eK ▸ q)
          rw [Vals.ref1 r]
          have hk2 : ∀ v ∈ its, (∃ f, PyProof.Rows.TupOf s.heap (fun i => sh.getD i false) v f) ∧ ∃ l, PyProof.Rows.G.tupKeyC s.heap (fun i => sh.getD i false) v = some l := fun v hv => by
            obtain ⟨i, hi, e⟩ := List.getElem_of_mem hv
            have hix : i < xs.length := by rw [rv.length]; exact hi
            obtain ⟨u, hu, ru⟩ := rv.get (get_of_mem hix)
            rw [get_of_mem hi] at hu
            cases hu
            obtain ⟨d, hd, rd⟩ := t.get (get_of_mem hix)
            have := tup_at eK I hne rd ru (hf d (List.mem_of_getElem? hd))
            rw [e] at this
            exact ⟨this.2.2, _, this.1⟩
          obtain ⟨fs, hfs⟩ := tupsOf_of fun v hv => (hk2 v hv).1
          refine PyProof.Rows.G.sorted_tups hl2.isList hfs (fun v hv => (hk2 v hv).2) (by rw [← rv.length]; exact hz) fun st' hp hs _ => ?_
          obtain ⟨rr2, hrefs⟩ := sorted_es eK I hne hf t rv hp hs
          obtain ⟨ep, he'⟩ := PyProof.Rows.sortedAll_at s.heap its ((arrOf st').map (·.2))
          have hlen : (((arrOf st').map (·.2)).toList.map backV).length ≤ sizeLine := by
            rw [← rr2.length, (sortD_perm ys).length_eq, t.length]; exact hz
          exact ⟨.ref _, upd g.H (s.heap.objs.size + 1) (.lst (((arrOf st').map (·.2)).toList.map backV)), I.laid (t' := s.toks) (fun _ _ => PyProof.Rows.sortedAll_old) (Nat.le_succ _) ⟨hlen, _, ep, vals_back hrefs, he'⟩, rfl,
            Out.here (a := _) o m rr2 _ (I.hok.fresh (Nat.le_succ _))⟩
        · exact o.elim
      · exact o.elim
    · exact o.elim
  · exact o.elim
end
end Z

namespace Z
open PySem PySem.Spec PyProof.Rows L2

/-! ### a variable whose cell becomes a tree, with what it holds -/
def resT (μ : Mem) : D → D
  | .obj n => match μ[n]? with
    | some (.fz t) => t
    | _ => .obj n
  | d => d
def Cell.kids : Cell → List D
  | .lst ds => ds
  | .dic _ ds => ds
  | _ => []
def Cell.res (μ : Mem) : Cell → Option D
  | .lst ds => some (.lst (ds.map (resT μ)))
  | .dic ks ds => some (.dic ks (ds.map (resT μ)))
  | .fz t => some t
  | _ => none
def foldM {α : Type} (f : α → Mem → Option Mem) : List α → Mem → Option Mem
  | [], μ => some μ
  | d :: ds, μ => match f d μ with
    | some μ' => foldM f ds μ'
    | none => none
def frzN : Nat → D → Mem → Option Mem
  | 0, _, μ => some μ
  | k + 1, .obj n, μ => match μ[n]? with
    | some c => (match foldM (frzN k) c.kids μ with
      | some μ' => (match (μ'[n]?).bind (Cell.res μ') with
        | some t => some (μ'.set n (.fz t))
        | none => none)
      | none => none)
    | none => none
  | k + 1, .tup ds, μ => foldM (frzN k) ds μ
  | _, _, μ => some μ
theorem resT_rep {g : G} (m : MemOk g) {d : D} {v : V} (r : Rep g d v) : Rep g (resT g.μ d) v := by
  cases d with
  | obj n =>
    obtain ⟨a, q, rfl⟩ := r
    show Rep g (match g.μ[n]? with | some (.fz t) => t | _ => .obj n) (.ref a)
    split
    · rename_i t h
      exact m.cells n a _ q h
    · exact ⟨a, q, rfl⟩
  | _ => exact r
theorem resTs_rep {g : G} (m : MemOk g) : ∀ {ds : List D} {xs : List V}, RepL g ds xs → RepL g (ds.map (resT g.μ)) xs
  | [], _, r => r
  | d :: ds, _, ⟨v, vs, e, r, t⟩ => ⟨v, vs, e, resT_rep m r, resTs_rep m t⟩
theorem res_rep {g : G} (m : MemOk g) {n : Nat} {d : D} {a : Addr} {c : Cell} (hα : g.α[n]? = some a) (hμ : g.μ[n]? = some c) (ht : c.res g.μ = some d) : Rep (g.frz n d) d (.ref a) := by
  have r := m.cells n a c hα hμ
  cases c with
  | lst ds =>
    cases ht
    obtain ⟨xs, e, q⟩ := r
    exact ⟨a, xs, rfl, ⟨e, m.frz_nP hα⟩, (resTs_rep m q).mono Ext.frz⟩
  | dic ks ds =>
    cases ht
    obtain ⟨xs, e, l, q⟩ := r
    exact ⟨a, xs, rfl, ⟨.inl e, m.frz_nP hα⟩, l, (resTs_rep m q).mono Ext.frz⟩
  | fz d' =>
    cases ht
    exact Rep.mono Ext.frz r
  | diT _ _ => cases ht
  | ins _ _ => cases ht
structure GTo (g : G) (μ : Mem) (g' : G) : Prop where
  h : g'.H = g.H
  μ : g'.μ = μ
  m : MemOk g'
  x : Ext g g'
  e : g'.fx = g.fx
theorem foldM_ok {f : D → Mem → Option Mem} (hf : ∀ (d : D) (g : G) (μ : Mem), MemOk g → f d g.μ = some μ → ∃ g', GTo g μ g') : ∀ (ds : List D) (g : G) (μ : Mem), MemOk g → foldM f ds g.μ = some μ → ∃ g', GTo g μ g'
  | [], g, μ, m, h => by cases h; exact ⟨g, rfl, rfl, m, Ext.refl g, rfl⟩
  | d :: ds, g, μ, m, h => by
    unfold foldM at h
    cases e : f d g.μ with
    | none => rw [e] at h; cases h
    | some μ1 =>
      rw [e] at h
      obtain ⟨g1, t1⟩ := hf d g μ1 m e
      have h' : foldM f ds g1.μ = some μ := by rw [t1.μ]; exact h
      obtain ⟨g2, t2⟩ := foldM_ok hf ds g1 μ t1.m h'
      exact ⟨g2, t2.h.trans t1.h, t2.μ, t2.m, t1.x.trans t2.x, t2.e.trans t1.e⟩
theorem frzN_ok : ∀ (k : Nat) (d : D) (g : G) (μ : Mem), MemOk g → frzN k d g.μ = some μ → ∃ g', GTo g μ g'
  | 0, d, g, μ, m, h => by
    have h' : some g.μ = some μ := by cases d <;> exact h
    cases h'
    exact ⟨g, rfl, rfl, m, Ext.refl g, rfl⟩
  | k + 1, d, g, μ, m, h => by
    cases d with
    | obj n =>
      unfold frzN at h
      cases e : g.μ[n]? with
      | none => rw [e] at h; cases h
      | some c =>
        rw [e] at h
        simp only at h
        cases e2 : foldM (frzN k) c.kids g.μ with
        | none => rw [e2] at h; cases h
        | some μ1 =>
          rw [e2] at h
          simp only at h
          obtain ⟨g1, t1⟩ := foldM_ok (frzN_ok k) c.kids g μ1 m e2
          rw [← t1.μ] at h
          cases e3 : g1.μ[n]? with
          | none => rw [e3] at h; cases h
          | some c1 =>
            rw [e3] at h
            simp only [Option.bind_some] at h
            cases e4 : c1.res g1.μ with
            | none => rw [e4] at h; cases h
            | some t =>
              rw [e4] at h
              cases h
              obtain ⟨a, hα, _⟩ := t1.m.at e3
              exact ⟨g1.frz n t, t1.h, rfl, t1.m.frz hα (res_rep t1.m hα e3 e4), t1.x.trans Ext.frz, t1.e⟩
    | tup ds => exact foldM_ok (frzN_ok k) ds g μ m h
    | _ => cases h; exact ⟨g, rfl, rfl, m, Ext.refl g, rfl⟩
def fFzN (k i : Nat) : Sem := fun ρ μ => (fV i ρ μ).bind fun d μ => match frzN k d μ with
  | some μ' => .ok (resT μ' d) μ'
  | none => .bad
section
variable {X : Cx} {F : Fx} {W : WX} {pos : Pos}
theorem se_fzN (k i : Nat) {x : Str} (hN : X.N[i]? = some x := by rfl) (hv : Vis X.env.scope x := by first | exact .inl rfl | exact .inr (.inl rfl) | exact .inr (.inr rfl)) (hd : (x == ("__debug__" : Str)) = false := by decide) (hcd : (x == ("__classdict__" : Str)) = false := by decide) : SE X F W (.Name x pos) (fFzN k i) :=
  PE.imp (pe_var (i := i) hN hv hd hcd) fun σ H Q ⟨g, ρ, _, e2, m, v, o⟩ => by
    subst e2
    unfold fFzN fV at o
    cases e : Env.at ρ i with
    | none => rw [e] at o; exact o.elim
    | some d =>
      rw [e] at o
      obtain ⟨w, h1, h2⟩ := v.2 i d (Env.at_some e)
      refine ⟨w, h1, ?_⟩
      have o' : Out Rep (fun c d H' => W c d σ H') g (match frzN k d g.μ with | some μ' => R.ok (resT μ' d) μ' | none => .bad) Q := o
      cases e2 : frzN k d g.μ with
      | none => rw [e2] at o'; exact o'.elim
      | some μ' =>
        rw [e2] at o'
        obtain ⟨g1, t⟩ := frzN_ok k d g μ' m e2
        have := o' g1 w t.μ t.m t.x (by rw [← t.μ]; exact resT_rep t.m (h2.mono t.x))
        rwa [t.h] at this
end

/-! ### isinstance -/
inductive Ty where
  | non | bl | int | str | tup | lst | dic
deriving DecidableEq
def Ty.nm : Ty → String
  | .non => "NoneType" | .bl => "bool" | .int => "int" | .str => "str" | .tup => "tuple" | .lst => "list" | .dic => "dict"
def tyOf (μ : Mem) : D → Option Ty
  | .non => some .non
  | .bl _ => some .bl
  | .int _ => some .int
  | .str _ => some .str
  | .tup _ => some .tup
  | .lst _ => some .lst
  | .sq _ => some .lst
  | .dic _ _ => some .dic
  | .obj n => match μ[n]? with
    | some (.lst _) => some .lst
    | some (.dic _ _) => some .dic
    | some (.fz (.lst _)) => some .lst
    | some (.fz (.dic _ _)) => some .dic
    | _ => none
  | .exn _ _ _ => none
/-- is t the type T, or one under it -/
def Ty.is (t T : Ty) : Bool := decide (t = T) || (decide (t = .bl) && decide (T = .int))
theorem kit_Ty {K : PySem.W.Frag} (t T : Ty) : PySem.W.kitOne K (.type t.nm) (.type T.nm) = some (t.is T) := by
  refine kit_ty ?_
  cases t <;> cases T <;> decide +kernel
theorem tyx_of {g : G} (m : MemOk g) {d : D} {v : V} {t : Ty} (r : Rep g d v) (h : tyOf g.μ d = some t) : TyX g.K g.H v (.type t.nm) := by
  have hT : ∀ {a : Addr} {xs : List V}, g.isT a xs → TyX g.K g.H (.ref a) (.type "tuple") := fun q => by
    rcases q with ⟨q | ⟨o, q⟩, _⟩ | ⟨o, its, n, q, c, _⟩
    · exact .base (.tup q)
    · exact .fTuple q
    · exact .kTuple q c
  have hL : ∀ {a : Addr} {xs : List V}, g.isL a xs → TyX g.K g.H (.ref a) (.type "list") := fun q => by
    rcases q with ⟨q | ⟨o, q⟩, _⟩ | ⟨o, its, n, q, c, _⟩
    · exact .base (.lst q)
    · exact .base (.frz q)
    · exact .kList q c
  have hD : ∀ {a : Addr} {kvs : List (Key × V)}, g.isD a kvs → TyX g.K g.H (.ref a) (.type "dict") := fun q => by
    rcases q with ⟨q | ⟨o, q⟩, _⟩
    · exact .base (.dK q)
    · exact .fDict q
  cases d with
  | non => cases h; cases r; exact .base .non
  | bl b => cases h; cases r; exact .base (.bl b)
  | int i => cases h; cases r; exact .base (.int i)
  | str x => cases h; cases r; exact .base (.str x)
  | tup ds => cases h; obtain ⟨a, xs, rfl, q, _⟩ := r; exact hT q
  | lst ds => cases h; obtain ⟨a, xs, rfl, q, _⟩ := r; exact .base (.lst q.1)
  | sq ds => cases h; obtain ⟨a, xs, rfl, q, _⟩ := r; exact hL q
  | dic ks ds => cases h; obtain ⟨a, xs, rfl, q, _⟩ := r; exact hD q
  | obj n =>
    obtain ⟨a, q, rfl⟩ := r
    unfold tyOf at h
    simp only at h
    split at h
    · rename_i e; cases h; obtain ⟨xs, e1, _⟩ := m.cells n a _ q e; exact .base (.lst e1)
    · rename_i e; cases h; obtain ⟨xs, e1, _⟩ := m.cells n a _ q e; exact .base (.dK e1)
    · rename_i e; cases h; obtain ⟨b, xs, e0, e1, _⟩ := m.cells n a _ q e; cases e0; exact .base (.lst e1.1)
    · rename_i e; cases h; obtain ⟨b, xs, e0, e1, _⟩ := m.cells n a _ q e; cases e0; exact hD e1
    · cases h
  | exn c ks vs => cases h
def fIsI (T : Ty) (a : Sem) : Sem := fun ρ μ => (a ρ μ).bind fun x μ => match tyOf μ x with
  | some t => .ok (.bl (t.is T)) μ
  | none => .bad
def fIsI2 (T U : Ty) (a : Sem) : Sem := fun ρ μ => (a ρ μ).bind fun x μ => match tyOf μ x with
  | some t => .ok (.bl (t.is T || t.is U)) μ
  | none => .bad
section
variable {X : Cx} {F : Fx} {W : WX} {a : Expr} {fa : Sem} {p p1 p2 p3 pos : Pos} {nm nm2 : Str}
theorem se_isi (T : Ty) (hF : F.K = X.K) (hm : X.mg "isinstance" = none) (hmT : X.mg nm = none) (ha : SE X F W a fa) (hv : bootBuiltins nm = some (.type T.nm) := by decide +kernel) (hg : Gl X "isinstance" := by rfl) (hgT : Gl X nm := by rfl) (hb : bootBuiltins "isinstance" = some (.builtin "isinstance") := by decide +kernel)
    (hn : nm ≠ "__name__" := by decide) (hd : (nm == ("__debug__" : Str)) = false := by decide)
    (h1 : starEach [.Name nm p2] X.env = (false, eval (.Name nm p2) X.env) :: starEach [] X.env := by rfl) (h2 : starEach [a, .Name nm p2] X.env = (false, eval a X.env) :: starEach [.Name nm p2] X.env := by rfl) (hpl : (backTo pos (starEach [.Name nm p2] X.env)).any (·.1) = false := by rfl) :
    SE X F W (.Call (.Name "isinstance" p) [a, .Name nm p2] [] pos) (fIsI T fa) :=
  PE.imp (pe_callB call_isi hg hm hb (pa_cons ha (pa_cons (pe_bltn (v := .ty T.nm) hgT hmT hv rfl hn hd) pa_nil h1) h2) (by decide) (by decide) h2 hpl) fun σ H Q h => tW.bind h fun g ρ x v e m w r o => by
    cases ht : tyOf g.μ x with
    | none => simp only [ht] at o; exact o.elim
    | some t =>
      simp only [ht] at o
      exact ⟨v, .ty T.nm, .type t.nm, .type T.nm, t.is T, rfl, .ty _, (fxK e hF) ▸ tyx_of m r ht, kit_Ty t T, o.here m rfl⟩
theorem se_isi2 (T U : Ty) (hF : F.K = X.K) (hm : X.mg "isinstance" = none) (hmT : X.mg nm = none) (hmU : X.mg nm2 = none) (ha : SE X F W a fa) (hv : bootBuiltins nm = some (.type T.nm) := by decide +kernel) (hv2 : bootBuiltins nm2 = some (.type U.nm) := by decide +kernel) (hg : Gl X "isinstance" := by rfl) (hgT : Gl X nm := by rfl) (hgU : Gl X nm2 := by rfl) (hb : bootBuiltins "isinstance" = some (.builtin "isinstance") := by decide +kernel)
    (hn : nm ≠ "__name__" := by decide) (hd : (nm == ("__debug__" : Str)) = false := by decide) (hn2 : nm2 ≠ "__name__" := by decide) (hd2 : (nm2 == ("__debug__" : Str)) = false := by decide) {k : Nat}
    (h0 : starEach [.Name nm2 p3] X.env = (false, eval (.Name nm2 p3) X.env) :: starEach [] X.env := by rfl)
    (h1 : starEach [.Name nm p2, .Name nm2 p3] X.env = (false, eval (.Name nm p2) X.env) :: starEach [.Name nm2 p3] X.env := by rfl)
    (h3 : starEach [.Tuple [.Name nm p2, .Name nm2 p3] k p1] X.env = (false, eval (.Tuple [.Name nm p2, .Name nm2 p3] k p1) X.env) :: starEach [] X.env := by rfl)
    (h2 : starEach [a, .Tuple [.Name nm p2, .Name nm2 p3] k p1] X.env = (false, eval a X.env) :: starEach [.Tuple [.Name nm p2, .Name nm2 p3] k p1] X.env := by rfl) (hpl : (backTo pos (starEach [.Tuple [.Name nm p2, .Name nm2 p3] k p1] X.env)).any (·.1) = false := by rfl) :
    SE X F W (.Call (.Name "isinstance" p) [a, .Tuple [.Name nm p2, .Name nm2 p3] k p1] [] pos) (fIsI2 T U fa) :=
  PE.imp (pe_callB call_isiT hg hm hb (pa_cons ha (pa_cons (pe_tup (pa_cons (pe_bltn (v := .ty T.nm) hgT hmT hv rfl hn hd) (pa_cons (pe_bltn (v := .ty U.nm) hgU hmU hv2 rfl hn2 hd2) pa_nil h0) h1)) pa_nil h3) h2) (by decide) (by decide) h2 hpl) fun σ H Q h => tW.bind h fun g ρ x v e m w r o => by
    cases ht : tyOf g.μ x with
    | none => simp only [ht] at o; exact o.elim
    | some t =>
      simp only [ht] at o
      refine ⟨by rw [sizeLine_eq]; simp, fun p hp => ?_⟩
      have x1 : Ext g (g.put p (.tup [.ty T.nm, .ty U.nm])) := Ext.put hp (m.fresh hp).2.1
      have m1 : MemOk (g.put p (.tup [.ty T.nm, .ty U.nm])) := m.put hp
      refine ⟨v, p, _, .type t.nm, [.type T.nm, .type U.nm], t.is T || t.is U, rfl, upd_same, .cons (.ty _) (.cons (.ty _) .nil), (fxK e hF) ▸ tyx_of m1 (r.mono x1) ht, ?_, ?_⟩
      · refine kitAny_cons (kit_Ty t T) (fun h => ?_) (fun h => by rw [h]; rfl)
        rw [h, Bool.false_or]
        refine kitAny_cons (kit_Ty t U) (fun h => ?_) (fun h => h)
        rw [h]; exact kitAny_nil
      · exact o (g.put p (.tup [.ty T.nm, .ty U.nm])) (.bl _) rfl m1 x1 rfl
end
end Z

namespace Z
open PySem PySem.Spec PyProof.Rows L2

/-! ### list.index, list.count, list.remove, str.join -/
def flatD : D → Bool
  | .non => true | .bl _ => true | .int _ => true | .str _ => true
  | _ => false
def eqF : D → D → Bool
  | .non, .non => true
  | .bl a, .bl b => a == b
  | .bl a, .int b => (if a then 1 else 0) == b
  | .int a, .bl b => a == (if b then 1 else 0)
  | .int a, .int b => a == b
  | .str a, .str b => a == b
  | _, _ => false
theorem flatR {g : G} {d : D} {v : V} (r : Rep g d v) (h : flatD d = true) : flatV v = true := by
  cases d <;> first | (exact absurd h (by decide)) | (cases r; rfl) | cases h
theorem eqF_rep {g : G} {d e : D} {v w : V} (r : Rep g d v) (q : Rep g e w) (h : flatD d = true) (k : flatD e = true) : eqV v w = eqF d e := by
  have hf : ∀ {d : D}, flatD d = true → d = .non ∨ (∃ b, d = .bl b) ∨ (∃ i, d = .int i) ∨ ∃ x, d = .str x := fun {d} h => by
    cases d with
    | non => exact .inl rfl
    | bl b => exact .inr (.inl ⟨b, rfl⟩)
    | int i => exact .inr (.inr (.inl ⟨i, rfl⟩))
    | str x => exact .inr (.inr (.inr ⟨x, rfl⟩))
    | _ => cases h
  rcases hf h with rfl | ⟨_, rfl⟩ | ⟨_, rfl⟩ | ⟨_, rfl⟩ <;> rcases hf k with rfl | ⟨_, rfl⟩ | ⟨_, rfl⟩ | ⟨_, rfl⟩ <;> cases r <;> cases q <;> rfl
def dIndex (x : D) (as : List D) (μ : Mem) : R D := match lstD μ x, as with
  | some ds, [y] => if flatD y = true ∧ ds.all flatD = true then (match ds.findIdx? (fun d => eqF d y) with
    | some j => .ok (.int (j : Nat)) μ
    | none => .bad) else .bad
  | _, _ => .bad
theorem cm_index (x : D) (as : List D) (μ : Mem) : (dIndex x as μ).calm := by
  unfold dIndex
  split
  · split
    · split <;> trivial
    · trivial
  · trivial
theorem flats_rep {g : G} : ∀ {ds : List D} {xs : List V}, RepL g ds xs → ds.all flatD = true → xs.all flatV = true
  | [], _, r, _ => by cases r; rfl
  | d :: ds, _, ⟨v, vs, e, r, t⟩, h => by
    subst e
    rw [List.all_cons, Bool.and_eq_true] at h
    rw [List.all_cons, flatR r h.1, flats_rep t h.2]; rfl
section
variable {X : Cx} {F : Fx}
theorem md_index (hF : F.K = X.K) : MtR X "list.index" (rDM F dIndex) := by
  intro pins s σ H x xs v us Q I rx rxs h
  obtain ⟨g, a, ds, e, rfl, m, ra, rd, o⟩ := h
  have eK := fxK e hF
  unfold dIndex at o
  split at o
  · rename_i es y hl
    split at o
    · rename_i hf
      split at o
      · rename_i j hj
        obtain ⟨p, ys, rfl, q, t⟩ := lstD_rep m ra hl
        obtain ⟨w, rfl, rw'⟩ := one_rep rd
        rw [List.findIdx?_eq_some_iff_getElem] at hj
        obtain ⟨hj1, hj2, hj3⟩ := hj
        obtain ⟨z, hz, rz⟩ := t.get' (get_of_mem hj1)
        have fl : ∀ (i : Nat) (hi : i < es.length), flatD es[i] = true := fun i hi => List.all_eq_true.mp hf.2 _ (List.getElem_mem hi)
        refine mt_index pins s σ g.H _ _ v us Q I rx rxs ⟨p, ys, w, j, z, rfl, rfl, eK ▸ q, flatR rw' hf.1, flats_rep t hf.2, hz, (eqF_rep rz rw' (fl j hj1) hf.1).trans hj2, fun i z' hi hz' => ?_, o.here m rfl⟩
        obtain ⟨d', hd', rd'⟩ := t.get hz'
        have hi2 : i < es.length := (List.getElem?_eq_some_iff.mp hd').1
        rw [get_of_mem hi2] at hd'
        cases hd'
        rw [eqF_rep rd' rw' (fl i hi2) hf.1]
        have := hj3 i hi
        simpa using this
      · exact o.elim
    · exact o.elim
  · exact o.elim
def dJoin (x : D) (as : List D) (μ : Mem) : R D := match x, as with
  | .str a, [y] => (match (lstD μ y).bind strsD with
    | some ys => if (ys.map (·.length)).sum + ys.length * a.length ≤ 16777216 then .ok (.str (Txt.join a ys)) μ else .bad
    | none => .bad)
  | _, _ => .bad
theorem cm_join (x : D) (as : List D) (μ : Mem) : (dJoin x as μ).calm := by
  unfold dJoin
  split
  · split
    · split <;> trivial
    · trivial
  · trivial
theorem md_join (hF : F.K = X.K) : MtR X "str.join" (rDM F dJoin) := by
  intro pins s σ H x xs v us Q I rx rxs h
  obtain ⟨g, a, ds, e, rfl, m, ra, rd, o⟩ := h
  have eK := fxK e hF
  unfold dJoin at o
  split at o
  · rename_i b y
    obtain ⟨w, rfl, rw'⟩ := one_rep rd
    cases ra
    split at o
    · rename_i ys hl
      split at o
      · rename_i hz
        cases h1 : lstD g.μ y with
        | none => rw [h1] at hl; cases hl
        | some es =>
          rw [h1] at hl
          obtain ⟨p, xs, rfl, q, t⟩ := lstD_rep m rw' h1
          have ex := strsD_rep t hl
          subst ex
          exact mt_join pins s σ g.H _ _ v us Q I rx rxs ⟨b, p, ys, rfl, rfl, .inl (eK ▸ q), hz, o.here m rfl⟩
      · exact o.elim
    · exact o.elim
  · exact o.elim
end

/-! ### try .. except C: -/
/-- which classes of ours a class catches -/
structure Cat (K : PySem.W.Frag) (mg : Str → Option Value) (xc : Str → Option Addr) (x : Str) (cat : Str → Option Bool) : Prop where
  ex : ∃ c : Value, mg x = some c ∧ ∀ (cls : Str) (b : Bool) (C : Addr), cat cls = some b → xc cls = some C → PySem.W.exmOne K (.ref C) c = some b
def sTryOnly (cat : Str → Option Bool) (body suite : SemS) : SemS := fun ρ μ => match body ρ μ with
  | .exc e ρ' μ' => (match cat e.cls with
    | some true => suite ρ' μ'
    | some false => .exc e ρ' μ'
    | none => .bad)
  | r => r
section
variable {X : Cx} {F : Fx} {W : WX} {x : Str} {body suite : List Stmt} {b₀ : Stmt} {np pos pos' : Pos} {fb fs : SemS} {cat : Str → Option Bool}
theorem ss_tryOnly (hs : X.stack = X.env :: X.outer) (hf : X.env.frame = some X.env.locals) (hc : Cat X.K X.mg F.xc x cat) (tk : Takes X W)
    (hb : ∀ (W' : WX) (pn : List (Addr × Obj)) (xe : Value → Shared → Prop), Takes (X.tr pn xe) W' → PassesOwn (model X.prog X.w) X.A X.env xe → SSs (X.tr pn xe) F W' body fb)
    (hsu : ∀ (a : Addr) (oe : Obj) (pn : List (Addr × Obj)), (∃ vs, oe.data = .fields vs) → SSs (X.suite a ((a, oe) :: pn)) F W (b₀ :: suite) fs)
    (hg : Gl X x := by rfl) (hd : (x == ("__debug__" : Str)) = false := by decide) :
    SS X F W (.Try body [.ExceptHandler (some (.Name x np)) none (b₀ :: suite) pos'] [] [] pos) (sTryOnly cat fb fs) := by
  obtain ⟨c, hm, hcat⟩ := hc.ex
  refine PS.imp (ps_try_only (tb := fun W' => tS F W' fb) (ts := fun _ _ _ => tS F W fs) (Wout := W) hs hf ⟨hg, hd, .inl hm⟩ tk (fun W' pn xe tk' pass => hb W' pn xe tk' pass) fun a oe cls d pn z hv => hsu a oe pn hv) fun D σ H ⟨g, ρ, e1, e2, m, v, o⟩ => ?_
  refine ⟨g, ρ, e1, e2, m, v, ?_⟩
  unfold sTryOnly at o
  cases hr : fb ρ g.μ with
  | exc e ρ' μ' =>
    rw [hr] at o
    simp only at o
    intro g' σ' C dd em m' x' v' ex
    obtain ⟨c', hc', rfl, rest⟩ := ex
    have fxe : g'.fx = F := x'.fx.trans e1
    cases hk : cat e.cls with
    | none => rw [hk] at o; exact o.elim
    | some b =>
      rw [hk] at o
      have hx2 : F.xc e.cls = some c' := by rw [← fxe]; exact hc'
      refine ⟨b, hcat e.cls b c' hk hx2, fun hb a _ => ?_, fun hb => ?_⟩
      · subst hb
        simp only at o
        exact ⟨g', ρ', fxe, rfl, m', v', by rw [em]; exact OutS.from o x'⟩
      · subst hb
        simp only at o
        exact o g' σ' _ dd em m' x' v' ⟨c', hc', rfl, rest⟩
  | next ρ' μ' => rw [hr] at o; exact o
  | ret d μ' => rw [hr] at o; exact o
  | brk ρ' μ' => rw [hr] at o; exact o
  | cont ρ' μ' => rw [hr] at o; exact o
  | bad => rw [hr] at o; exact o.elim
end
end Z

namespace Z
open PySem PySem.Spec PyProof.Rows L2

/-! ### from a body's end to what is told: new cells are forgotten -/
def cleanD (μ0 : Mem) (r : RS) : R D := match r with
  | .ret d μ' => if μ'.length = μ0.length then .ok d μ' else
      if μ0.length ≤ μ'.length ∧ (μ'.take μ0.length).all (Cell.below μ0.length) = true ∧ D.lo μ0.length d = true then .ok d (μ'.take μ0.length) else .bad
  | .next _ μ' => if μ'.length = μ0.length then .ok .non μ' else
      if μ0.length ≤ μ'.length ∧ (μ'.take μ0.length).all (Cell.below μ0.length) = true then .ok .non (μ'.take μ0.length) else .bad
  | .exc e _ μ' => if μ'.length = μ0.length then .exc e μ' else
      if μ0.length ≤ μ'.length ∧ (μ'.take μ0.length).all (Cell.below μ0.length) = true ∧ Exl μ0.length e = true then .exc e (μ'.take μ0.length) else .bad
  | _ => .bad
/-- .. new cells are kept -/
def keepD (μ0 : Mem) (r : RS) : R D := match r with
  | .ret d μ' => if μ0.length ≤ μ'.length then .ok d μ' else .bad
  | .next _ μ' => if μ0.length ≤ μ'.length then .ok .non μ' else .bad
  | .exc e _ μ' => if μ0.length ≤ μ'.length then .exc e μ' else .bad
  | _ => .bad
theorem Tr.clean {μ0 μ' : Mem} (h : μ0.length ≤ μ'.length) (b : (μ'.take μ0.length).all (Cell.below μ0.length) = true) : Tr μ0 μ' (μ'.take μ0.length) := by
  have hl : (μ'.take μ0.length).length = μ0.length := by rw [List.length_take]; omega
  refine ⟨by rw [hl]; exact Nat.le_refl _, by rw [hl], .inr fun i c q => .inr ?_⟩
  rw [hl]
  exact List.all_eq_true.mp b c (List.mem_of_getElem? q)
theorem cleanD_ref (μ0 : Mem) (r : RS) : Ref μ0 (cleanD μ0 r) r := by
  have hl : ∀ μ' : Mem, μ0.length ≤ μ'.length → (μ'.take μ0.length).length = μ0.length := fun μ' h => by rw [List.length_take]; omega
  cases r with
  | ret d μ' =>
    show Ref μ0 (if _ then _ else _) _
    split
    · rename_i h; exact .ret (Tr.refl (by omega)) (.inl rfl)
    · split
      · rename_i h; exact .ret (Tr.clean h.1 h.2.1) (.inr (by rw [hl _ h.1]; exact h.2.2))
      · exact .bad
  | next ρ μ' =>
    show Ref μ0 (if _ then _ else _) _
    split
    · rename_i h; exact .nx (Tr.refl (by omega))
    · split
      · rename_i h; exact .nx (Tr.clean h.1 h.2)
      · exact .bad
  | exc e ρ μ' =>
    show Ref μ0 (if _ then _ else _) _
    split
    · rename_i h; exact .exc (Tr.refl (by omega)) (.inl rfl)
    · split
      · rename_i h; exact .exc (Tr.clean h.1 h.2.1) (.inr (by rw [hl _ h.1]; exact h.2.2))
      · exact .bad
  | brk ρ μ' => exact .bad
  | cont ρ μ' => exact .bad
  | bad => exact .bad
theorem keepD_ref (μ0 : Mem) (r : RS) : Ref μ0 (keepD μ0 r) r := by
  cases r with
  | ret d μ' =>
    show Ref μ0 (if _ then _ else _) _
    split
    · rename_i h; exact .ret (Tr.refl h) (.inl rfl)
    · exact .bad
  | next ρ μ' =>
    show Ref μ0 (if _ then _ else _) _
    split
    · rename_i h; exact .nx (Tr.refl h)
    · exact .bad
  | exc e ρ μ' =>
    show Ref μ0 (if _ then _ else _) _
    split
    · rename_i h; exact .exc (Tr.refl h) (.inl rfl)
    · exact .bad
  | brk ρ μ' => exact .bad
  | cont ρ μ' => exact .bad
  | bad => exact .bad
/-- the def of a body: N slots -/
def dfn (N : Nat) (b : SemS) : DFn := fun ds μ => cleanD μ (b (startD N ds) μ)
def dfk (N : Nat) (b : SemS) : DFn := fun ds μ => keepD μ (b (startD N ds) μ)
section
variable {P : Program} {w : World} {K : PySem.W.Frag} {mg : Str → Option Value} {base : Heap} {x qual : Str} {st : Stmt} {f : Addr} {fd : FuncData} {N ps : List Str} {k n : Nat} {F : Fx} {b : SemS}
theorem cal_dfn (hm : mg x = some (.ref f)) (Fn : Fun K x qual st f fd) (hb : Binds K fd ps []) (sc : FnScope N ps (defScope st)) (hn : ps.length = n)
    (body : ∀ (cdv : Value) (A : Around) (outer : List PySem.Env) (s : Shared) (H : Hp) (E : XK), Room k (A.deeper (envOfC qual (defScope st) s.heap.objs.size f cdv)) → SSs (cxOf (L2.CX P w) P w K mg base N qual (defScope st) f cdv A outer s H E) F (fun c d _ H' => E c d H') (defBody st) b) : Cal P w K mg base F (k + 1) x n [] (dfn N.length b) :=
  ⟨f, fd, ps, [], [], fnD Fn sc hn body fun ds μ _ => cleanD_ref μ _, hm, Fn.kp, hb, .nil, fun _ => RepL.nil⟩
theorem cal_dfk (hm : mg x = some (.ref f)) (Fn : Fun K x qual st f fd) (hb : Binds K fd ps []) (sc : FnScope N ps (defScope st)) (hn : ps.length = n)
    (body : ∀ (cdv : Value) (A : Around) (outer : List PySem.Env) (s : Shared) (H : Hp) (E : XK), Room k (A.deeper (envOfC qual (defScope st) s.heap.objs.size f cdv)) → SSs (cxOf (L2.CX P w) P w K mg base N qual (defScope st) f cdv A outer s H E) F (fun c d _ H' => E c d H') (defBody st) b) : Cal P w K mg base F (k + 1) x n [] (dfk N.length b) :=
  ⟨f, fd, ps, [], [], fnD Fn sc hn body fun ds μ _ => keepD_ref μ _, hm, Fn.kp, hb, .nil, fun _ => RepL.nil⟩
theorem Cal.up {L L' : Nat} {dds : List D} {S : DFn} (c : Cal P w K mg base F L x n dds S) (h : L = L') : Cal P w K mg base F L' x n dds S := h ▸ c
end
/-! ### a context's common facts -/
structure Ctb (X : Cx) (F : Fx) (W : WX) (L : Nat) : Prop where
  k : F.K = X.K
  r : Room L X.A
  n : X.N.Nodup
  c : X.calm = true
  t : Takes X W
structure Ctx (X : Cx) (F : Fx) (W : WX) (L : Nat) : Prop extends Ctb X F W L where
  p : PassesOwn (model X.prog X.w) X.A X.env X.xe
  s : X.stack = X.env :: X.outer
  f : X.env.frame = some X.env.locals
theorem Ctb.u {X : Cx} {F : Fx} {W : WX} {L : Nat} (c : Ctb X F W L) : X.A.units + 70 < cLine := by have := c.r.un; omega
theorem Ctx.u {X : Cx} {F : Fx} {W : WX} {L : Nat} (c : Ctx X F W L) : X.A.units + 70 < cLine := by have := c.r.un; omega
theorem Ctb.blk {X : Cx} {F : Fx} {W : WX} {L : Nat} (c : Ctb X F W L) (s : Shared) (H : Hp) {scope : Scope} (C : Addr) (cl : List (Str × Addr)) (fp : List Addr) : Ctb (X.blk s H scope (compEnvC scope cl C X.env) fp) F W0 L := ⟨c.k, c.r, c.n, c.c, takes0⟩
section
variable {X : Cx} {F : Fx} {W : WX} {L : Nat} {s : Shared} {H : Hp} {scope : Scope} {A : Addr} {cl : List (Str × Addr)} {fp : List Addr}
theorem Ctb.bG {tg : Expr} {a : Tgt} {vs : List Nat} (c : Ctb X F W L) (k : Ctb (X.blk s H scope (compEnvC scope cl A X.env) fp) F W0 L → SGw (X.blk s H scope (compEnvC scope cl A X.env) fp) F tg a vs) : SGw (X.blk s H scope (compEnvC scope cl A X.env) fp) F tg a vs := k (c.blk s H A cl fp)
theorem Ctb.bT {ifs : List Expr} {t : SemT} (c : Ctb X F W L) (k : Ctb (X.blk s H scope (compEnvC scope cl A X.env) fp) F W0 L → SPt (X.blk s H scope (compEnvC scope cl A X.env) fp) F W0 ifs t) : SPt (X.blk s H scope (compEnvC scope cl A X.env) fp) F W0 ifs t := k (c.blk s H A cl fp)
theorem Ctb.bE {e : Expr} {f : Sem} (c : Ctb X F W L) (k : Ctb (X.blk s H scope (compEnvC scope cl A X.env) fp) F W0 L → SE (X.blk s H scope (compEnvC scope cl A X.env) fp) F W0 e f) : SE (X.blk s H scope (compEnvC scope cl A X.env) fp) F W0 e f := k (c.blk s H A cl fp)
end
theorem Ctx.tr {X : Cx} {F : Fx} {W W' : WX} {L : Nat} {pn : List (Addr × Obj)} {xe : Value → Shared → Prop} (c : Ctx X F W L) (tk : Takes (X.tr pn xe) W') (ps : PassesOwn (model X.prog X.w) X.A X.env xe) : Ctx (X.tr pn xe) F W' L := ⟨⟨c.k, c.r, c.n, c.c, tk⟩, ps, c.s, c.f⟩
theorem ctx_of {P : Program} {w : World} {K : PySem.W.Frag} {mg : Str → Option Value} {base : Heap} {N : List Str} {qual : Str} {sc : Scope} {f : Addr} {cdv : Value} {A : Around} {outer : List PySem.Env} {s : Shared} {H : Hp} {E : XK} {F : Fx} {L : Nat} (hF : F.K = K) (hN : N.Nodup) (hr : Room L (A.deeper (envOfC qual sc s.heap.objs.size f cdv))) :
    Ctx (cxOf (L2.CX P w) P w K mg base N qual sc f cdv A outer s H E) F (fun c d _ H' => E c d H') L :=
  ⟨⟨hF, hr, hN, rfl, L2.takes_of rfl rfl rfl rfl⟩, L2.passes_of (X := cxOf (L2.CX P w) P w K mg base N qual sc f cdv A outer s H E) rfl, rfl, rfl⟩
/-- the address of a class of the module -/
def xcOf (mg : Str → Option Value) (c : Str) : Option Addr := match mg c with
  | some (.ref a) => some a
  | _ => none
theorem xcOf_of {mg : Str → Option Value} {c : Str} {a : Addr} (h : mg c = some (.ref a)) : xcOf mg c = some a := by unfold xcOf; rw [h]
theorem con_str {mg : Str → Option Value} {x s : Str} {u : Value} (h : mg x = some u) (r : RelV (.str s) u) : Con1 mg x (.str s) := ⟨.str s, u, h, r, fun _ => rfl⟩
theorem con_int {mg : Str → Option Value} {x : Str} {i : Int} {u : Value} (h : mg x = some u) (r : RelV (.int i) u) : Con1 mg x (.int i) := ⟨.int i, u, h, r, fun _ => rfl⟩
section
variable {X : Cx} {F : Fx} {W : WX} {L : Nat} {e o : Expr} {es : List Expr} {fo : Sem} {f : SemA} {t : SemT} {a : Expr} {apos cpos pos : Pos}
theorem se_notV (h : SE X F W a fo) (hF : F.K = X.K) : SE X F W (.UnaryOp .Not a pos) (fNot (fTru fo)) :=
  PE.imp (pe_notT h) fun σ H Q ⟨g, ρ, e1, e2, m, v, o⟩ => by
    refine ⟨g, ρ, e1, e2, m, v, ?_⟩
    unfold fNot fTru at o
    revert o
    cases fo ρ g.μ with
    | ok d μ =>
      intro o g1 x em m1 x1 r1
      have eK : g1.K = X.K := (fxK (x1.fx.trans e1) hF)
      cases ht : truD μ d with
      | none =>
        have o' : Out Rep (fun c d H' => W c d σ H') g ((R.ofP μ (truD μ d)).bind fun k μ => R.ok (D.bl (!k)) μ) Q := o
        rw [ht] at o'; exact o'.elim
      | some k =>
        have o' : Out Rep (fun c d H' => W c d σ H') g ((R.ofP μ (truD μ d)).bind fun k μ => R.ok (D.bl (!k)) μ) Q := o
        rw [ht] at o'
        exact ⟨k, eK ▸ truD_ok m1 r1 (by rw [em]; exact ht), o' g1 (.bl (!k)) em m1 x1 rfl⟩
    | exc e μ => exact fun o => o
    | bad => exact fun o => o
end
end Z

namespace Z
open PySem PySem.Spec PyProof.Rows L2

/-! ### the law -/
def spLawZ (K : PySem.W.Frag) : Sp := fun vs H Q _ => ∃ (a : Addr) (ns : List Int), vs = [.ref a] ∧ ns.length ≤ 63 ∧ (∀ z ∈ ns, Builtin.Int.intBits z ≤ 1048576) ∧ SqL K H a (ns.map V.int) ∧ ∀ H', Q (.bl true) H'
theorem FnOk.law {P : Program} {w : World} {K : PySem.W.Frag} {mg : Str → Option Value} {base : Heap} {k : Nat} {f : Addr} {fd : FuncData} {ps : List Str} {F : Fx} {S : DFn} (hK : F.K = K) (hxo : F.xo = none) (h : FnOk P w K mg base (L2.CX P w) k f fd ps (spD F 1 S))
    (hS : ∀ ns : List Int, ns.length ≤ 63 → (∀ z ∈ ns, Builtin.Int.intBits z ≤ 1048576) → ∃ μ, S [.sq (ns.map D.int)] [] = .ok (.bl true) μ) : FnOk P w K mg base (L2.CX P w) k f fd ps (spLawZ K) := by
  refine FnOk.imp h fun vs H Q E ⟨a, ns, e, hl, hb, hs, q⟩ => ?_
  subst e
  let g : G := { K := F.K, H := H, α := [], μ := [], ex := [], cl := F.cl, xc := F.xc, xo := F.xo }
  have nP : ∀ b, ¬ g.P b := fun b z => by
    rcases z with ⟨n, c, x, _, _⟩ | z
    · have x' : ([] : List Addr)[n]? = some b := x
      simp at x'
    · exact absurd (show b ∈ ([] : List Addr) from z) (by simp)
  have m : MemOk g := ⟨rfl, List.nodup_nil, fun a ha => absurd (show a ∈ ([] : List Addr) from ha) (by simp), fun a ha => absurd (show a ∈ ([] : List Addr) from ha) (by simp), fun n a c x _ => by
    have x' : ([] : List Addr)[n]? = some a := x
    simp at x'⟩
  have r : RepL g [.sq (ns.map D.int)] [.ref a] := by
    refine RepL.cons ⟨a, ns.map V.int, rfl, ?_, rep_ints ns⟩ RepL.nil
    rcases hs with hs | hs
    · exact .inl ⟨hs, nP a⟩
    · refine .inr ?_
      show KL F.K a _
      rw [hK]; exact hs
  obtain ⟨μ, e⟩ := hS ns hl hb
  refine ⟨g, _, rfl, rfl, m, r, rfl, ?_⟩
  show Out Rep E g (S [.sq (ns.map D.int)] []) Q
  rw [e]
  intro g' b _ _ _ rb
  have rb' : b = .bl true := rb
  subst rb'
  exact q g'.H
theorem walkZ {l : PySem.W.OpenLaw} {k : Nat} {q : Program} {loose : List Str} {XP : (Str → Option Value) → Heap → Prop} {YP : World → Heap → Prop} {d : DefRec} {K : Params → PySem.W.Frag} (hn : l.most = some 63) (hdf : d.params.defaults = []) (hr : Room k callerA)
    (hY : ∀ (w : World) (h : Heap), YP w h → (K w.params).In h)
    (F : ∀ (w : World) (mg : Str → Option Value) (fa : Addr) (h : Heap), (K w.params).In h → h.Ns mainGlobals mg → mg d.name = some (.ref fa) →
      ∃ fd : FuncData, (∀ (s : Shared) (u : Value), BindsTo s fd ⟨[u], []⟩ [("script", u)]) ∧
        ∀ base : Heap, (K w.params).In base → base.Ns mainGlobals mg → FnOk l.prog w (K w.params) mg base (L2.CX l.prog w) k fa fd ["script"] (spLawZ (K w.params))) :
    PySem.W.WalkO q loose XP YP l.row.toRowW d [] (fun f vs => PySem.call f vs) :=
  L2.walk_ofB (n := 63) (k := k) (x := "script") (CX := fun w => L2.CX l.prog w) (sp := fun w => spLawZ (K w.params)) hn (by decide) hdf hr hY F (fun _ _ a ns hl hb _ hS => ⟨a, ns, rfl, hl, hb, hS, fun _ => rfl⟩) fun _ _ _ _ _ ⟨_, _, _, _, _, _, _, _, _, _, _, _, z⟩ => z
end Z

namespace Z
open PySem PySem.Spec PyProof.Rows L2

/-! ### plain reckoning -/
theorem bind_ok {α β : Type} (a : α) (μ : Mem) (k : α → Mem → R β) : (R.ok a μ).bind k = k a μ := rfl
theorem bind_exc {α β : Type} (e : Ex) (μ : Mem) (k : α → Mem → R β) : (R.exc e μ).bind k = .exc e μ := rfl
theorem s_ok {α : Type} (a : α) (μ : Mem) (ρ : Env) (k : α → Mem → RS) : (R.ok a μ).s ρ k = k a μ := rfl
theorem s_exc {α : Type} (e : Ex) (μ : Mem) (ρ : Env) (k : α → Mem → RS) : (R.exc (α := α) e μ).s ρ k = .exc e ρ μ := rfl
theorem ofP_some {α : Type} (μ : Mem) (a : α) : R.ofP μ (some a) = .ok a μ := rfl
theorem then_next (ρ : Env) (μ : Mem) (k : SemS) : (RS.next ρ μ).then k = k ρ μ := rfl
theorem then_ret (d : D) (μ : Mem) (k : SemS) : (RS.ret d μ).then k = .ret d μ := rfl
theorem then_exc (e : Ex) (ρ : Env) (μ : Mem) (k : SemS) : (RS.exc e ρ μ).then k = .exc e ρ μ := rfl
theorem bindB_ok' {α β : Type} (a : α) (μ : Mem) (k : α → Mem → R β) : (R.ok a μ).bindB k = k a μ := rfl
theorem clean_ret (μ : Mem) (d : D) : cleanD μ (.ret d μ) = .ok d μ := by simp [cleanD]
theorem clean_ret' {μ μ' : Mem} (d : D) (h : μ'.length = μ.length) : cleanD μ (.ret d μ') = .ok d μ' := by simp [cleanD, h]
theorem clean_next' {μ μ' : Mem} (ρ : Env) (h : μ'.length = μ.length) : cleanD μ (.next ρ μ') = .ok .non μ' := by simp [cleanD, h]
theorem clean_exc (μ : Mem) (e : Ex) (ρ : Env) : cleanD μ (.exc e ρ μ) = .exc e μ := by simp [cleanD]
theorem take_app {μ ex : Mem} : (μ ++ ex).take μ.length = μ := by simp
theorem clean_app {μ ex : Mem} (d : D) (hb : μ.all (Cell.below μ.length) = true) (hd : D.lo μ.length d = true) : cleanD μ (.ret d (μ ++ ex)) = .ok d μ := by
  unfold cleanD
  by_cases h : (μ ++ ex).length = μ.length
  · have : ex = [] := by cases ex with | nil => rfl | cons a b => simp at h
    subst this; simp
  · simp only [h, if_false, take_app]
    rw [if_pos ⟨by simp, hb, hd⟩]
section
variable {α : Type} {gd : Grd} {a : Tgt} {t : SemT} {e : Sem} {b : SemS} {ρ : Env} {μ : Mem}
theorem lcL_map (toD : α → D) (p : α → Bool) (f : α → D) (hg : gd.ok μ) : ∀ xs : List α, (∀ x ∈ xs, ∃ ρ1, a (toD x) ρ = some ρ1 ∧ t ρ1 μ = .ok (p x) μ ∧ (p x = true → e ρ1 μ = .ok (f x) μ)) → lcL gd a t e ρ (xs.map toD) μ = .ok ((xs.filter p).map f) μ
  | [], _ => rfl
  | x :: xs, h => by
    obtain ⟨ρ1, h1, h2, h3⟩ := h x List.mem_cons_self
    have ih := lcL_map toD p f hg xs fun y hy => h y (List.mem_cons_of_mem _ hy)
    simp only [List.map_cons, lcL, h1, h2, R.bindB, lcG, if_pos hg]
    by_cases hp : p x = true
    · simp only [hp, if_true, h3 hp, R.bindB, ih, if_pos hg, List.filter_cons_of_pos, List.map_cons]
    · simp only [hp, if_false, ih, List.filter_cons_of_neg (by simpa using hp)]
      simp
theorem lcL_yes (toD : α → D) (f : α → D) (hg : gd.ok μ) (xs : List α) (h : ∀ x ∈ xs, ∃ ρ1, a (toD x) ρ = some ρ1 ∧ e ρ1 μ = .ok (f x) μ) : lcL gd a tYes e ρ (xs.map toD) μ = .ok (xs.map f) μ := by
  have := lcL_map (t := tYes) toD (fun _ => true) f hg xs fun x hx => by
    obtain ⟨ρ1, h1, h2⟩ := h x hx
    exact ⟨ρ1, h1, rfl, fun _ => h2⟩
  rw [this, List.filter_eq_self.mpr (fun _ _ => rfl)]
theorem forL_inv (toD : α → D) (I : List α → Env → Mem → Prop) : ∀ (xs : List α) {ρ : Env} {μ : Mem}, I xs ρ μ → (∀ x rest ρ μ, I (x :: rest) ρ μ → ∃ ρ1, a (toD x) ρ = some ρ1 ∧ ∃ ρ2 μ2, b ρ1 μ = .next ρ2 μ2 ∧ gd.ok μ2 ∧ I rest ρ2 μ2) →
    ∃ ρ' μ', forL gd a b (xs.map toD) ρ μ = .next ρ' μ' ∧ I [] ρ' μ'
  | [], ρ, μ, h0, _ => ⟨ρ, μ, rfl, h0⟩
  | x :: xs, ρ, μ, h0, hs => by
    obtain ⟨ρ1, h1, ρ2, μ2, h2, h3, h4⟩ := hs x xs ρ μ h0
    obtain ⟨ρ', μ', h5, h6⟩ := forL_inv toD I xs h4 hs
    refine ⟨ρ', μ', ?_, h6⟩
    simp only [List.map_cons, forL, h1, h2, forG, if_pos h3, h5]
end
/-- ints from a to b -/
theorem rangeD_nat (n : Nat) : rangeD 0 (n : Int) = (List.range n).map fun (i : Nat) => D.int (i : Int) := by
  unfold rangeD
  simp
theorem atI_nat {α : Type} {xs : List α} {k : Nat} {x : α} (h : xs[k]? = some x) : atI xs (k : Int) = some x := by
  have hk := (List.getElem?_eq_some_iff.mp h).1
  have e : ixN xs.length (k : Int) = some k := by
    unfold ixN
    simp
    omega
  unfold atI
  rw [e]
  exact h
theorem atI_last {α : Type} {xs : List α} {x : α} (h : xs.getLast? = some x) : atI xs (-1) = some x := by
  have hne : xs ≠ [] := by intro z; subst z; cases h
  have hl : 0 < xs.length := List.length_pos_iff.mpr hne
  have e : ixN xs.length (-1) = some (xs.length - 1) := by
    unfold ixN
    simp
    omega
  unfold atI
  rw [e]
  rw [List.getLast?_eq_getElem?] at h
  exact h
theorem ix_tup (ds : List D) (i : Int) (μ : Mem) : dIx (.tup ds) (.int i) μ = R.ofP μ (atI ds i) := rfl
theorem ix_lst (ds : List D) (i : Int) (μ : Mem) : dIx (.lst ds) (.int i) μ = R.ofP μ (atI ds i) := rfl
theorem ix_sq (ds : List D) (i : Int) (μ : Mem) : dIx (.sq ds) (.int i) μ = R.ofP μ (atI ds i) := rfl
theorem ix_obj {n : Nat} {ds : List D} {μ : Mem} (i : Int) (h : μ[n]? = some (.lst ds)) : dIx (.obj n) (.int i) μ = R.ofP μ (atI ds i) := by
  show (match lstD μ (.obj n) with | some ds => _ | none => _) = _
  have : lstD μ (.obj n) = some ds := by simp [lstD, h]
  rw [this]
theorem at0 {α : Type} (a : α) (l : List α) : atI (a :: l) 0 = some a := atI_nat (k := 0) rfl
theorem at1 {α : Type} (a b : α) (l : List α) : atI (a :: b :: l) 1 = some b := atI_nat (k := 1) rfl
theorem at2 {α : Type} (a b c : α) (l : List α) : atI (a :: b :: c :: l) 2 = some c := atI_nat (k := 2) rfl
theorem at3 {α : Type} (a b c d : α) (l : List α) : atI (a :: b :: c :: d :: l) 3 = some d := atI_nat (k := 3) rfl
theorem len_lst (ds : List D) (μ : Mem) : dLen [.lst ds] μ = .ok (.int ds.length) μ := rfl
theorem len_sq (ds : List D) (μ : Mem) : dLen [.sq ds] μ = .ok (.int ds.length) μ := rfl
theorem len_obj {n : Nat} {ds : List D} {μ : Mem} (h : μ[n]? = some (.lst ds)) : dLen [.obj n] μ = .ok (.int ds.length) μ := by
  have : lstD μ (.obj n) = some ds := by simp [lstD, h]
  simp [dLen, dLen1, this, R.ofP]
end Z
namespace Z
open PySem PySem.Spec PyProof.Rows
mutual
theorem py_can : ∀ d : D, d.py.plain = true
  | .non => rfl
  | .bl _ => rfl
  | .int _ => rfl
  | .str _ => rfl
  | .tup ds => by simp only [D.py, PyData.plain]; exact pys_can ds
  | .lst ds => by simp only [D.py, PyData.plain]; exact pys_can ds
  | .sq ds => by simp only [D.py, PyData.plain]; exact pys_can ds
  | .dic _ _ => rfl
  | .obj _ => rfl
  | .exn _ _ _ => rfl
theorem pys_can : ∀ ds : List D, PyData.plainAll (D.pys ds) = true
  | [] => rfl
  | d :: ds => by simp only [D.pys, PyData.plainAll, py_can d, pys_can ds]; rfl
end
theorem eqb_refl (d : D) : D.eqb d d = true := PySem.SeqAt.eqv_refl_plain _ (py_can d)
/-- a tree: no handle at its head -/
def D.isT : D → Bool
  | .obj _ => false
  | _ => true
theorem res_tree {d : D} (h : d.isT = true) (μ : Mem) : resD μ d = d := by cases d <;> first | rfl | cases h
theorem dEq_refl {d : D} (h : d.isT = true) (f : D.fit 9 d = true) (μ : Mem) : dEq d d μ = some true := by
  unfold dEq
  rw [res_tree h, if_pos ⟨f, f⟩, eqb_refl]
theorem dNe_refl {d : D} (h : d.isT = true) (f : D.fit 9 d = true) (μ : Mem) : dNe d d μ = some false := by
  unfold dNe
  rw [dEq_refl h f]; rfl
mutual
theorem fit_up : ∀ {n : Nat} (d : D), D.fit n d = true → D.fit (n + 1) d = true
  | _, .non, _ => by simp [D.fit]
  | _, .bl _, _ => by simp [D.fit]
  | _, .int _, _ => by simp [D.fit]
  | _, .str _, _ => by simp [D.fit]
  | 0, .tup _, h => by simp [D.fit] at h
  | 0, .lst _, h => by simp [D.fit] at h
  | 0, .sq _, h => by simp [D.fit] at h
  | n + 1, .tup ds, h => by simp only [D.fit] at h ⊢; exact fits_up ds h
  | n + 1, .lst ds, h => by simp only [D.fit] at h ⊢; exact fits_up ds h
  | n + 1, .sq ds, h => by simp only [D.fit] at h ⊢; exact fits_up ds h
  | _, .dic _ _, h => by simp [D.fit] at h
  | _, .obj _, h => by simp [D.fit] at h
  | _, .exn _ _ _, h => by simp [D.fit] at h
theorem fits_up : ∀ {n : Nat} (ds : List D), D.fits n ds = true → D.fits (n + 1) ds = true
  | _, [], _ => by simp [D.fits]
  | n, d :: ds, h => by
    simp only [D.fits, Bool.and_eq_true] at h ⊢
    exact ⟨fit_up d h.1, fits_up ds h.2⟩
end
theorem fit_le {n m : Nat} {d : D} (h : D.fit n d = true) (l : n ≤ m) : D.fit m d = true := by
  induction l with
  | refl => exact h
  | step _ ih => exact fit_up d ih
theorem fits_map {α : Type} {n : Nat} (f : α → D) (xs : List α) (h : ∀ x ∈ xs, D.fit n (f x) = true) : D.fits n (xs.map f) = true := by
  rw [D.fits_all, List.all_eq_true]
  intro d hd
  obtain ⟨x, hx, rfl⟩ := List.mem_map.mp hd
  exact h x hx
theorem fit_lst {n : Nat} {ds : List D} (h : D.fits n ds = true) : D.fit (n + 1) (.lst ds) = true := by simp only [D.fit]; exact h
theorem eqb_int (i j : Int) : D.eqb (.int i) (.int j) = decide (i = j) := by
  unfold D.eqb
  simp only [D.py, PyData.eqv]
  by_cases h : i = j
  · subst h; simp
  · simp [h]
theorem eqb_str (i j : Str) : D.eqb (.str i) (.str j) = decide (i = j) := by
  unfold D.eqb
  simp only [D.py, PyData.eqv]
  by_cases h : i = j
  · subst h; simp
  · simp [h]
theorem dEq_int (i j : Int) (μ : Mem) : dEq (.int i) (.int j) μ = some (decide (i = j)) := by
  unfold dEq
  simp [resD, D.fit, eqb_int]
theorem dEq_str (i j : Str) (μ : Mem) : dEq (.str i) (.str j) μ = some (decide (i = j)) := by
  unfold dEq
  simp [resD, D.fit, eqb_str]
theorem dNe_int (i j : Int) (μ : Mem) : dNe (.int i) (.int j) μ = some (!decide (i = j)) := by
  unfold dNe; rw [dEq_int]; rfl
theorem eqb_nil (ds : List D) : D.eqb (.lst ds) (.lst []) = ds.isEmpty := by
  unfold D.eqb
  cases ds with
  | nil => simp [D.py, D.pys, PyData.eqv, PyData.eqvAll]
  | cons d ds => simp [D.py, D.pys, PyData.eqv, PyData.eqvAll]
theorem dEq_nil {ds : List D} (h : D.fits 8 ds = true) (μ : Mem) : dEq (.lst ds) (.lst []) μ = some ds.isEmpty := by
  unfold dEq
  rw [if_pos ⟨by simp only [resD, D.fit]; exact h, by simp [resD, D.fit, D.fits]⟩]
  show some (D.eqb (.lst ds) (.lst [])) = _
  rw [eqb_nil]
section
variable {α : Type} {i : SemI} {a : Tgt} {t : SemT} {e : Sem} {own : List Nat} {ρ : Env} {μ : Mem} {gd : Grd}
theorem fLc_map (toD : α → D) (p : α → Bool) (f : α → D) {xs : List α} (hi : i ρ μ = .ok ⟨xs.map toD, gd⟩ μ) (hg : gd.ok μ) (hl : xs.length ≤ sizeLine)
    (h : ∀ x ∈ xs, ∃ ρ1, a (toD x) (wipeD ρ own) = some ρ1 ∧ t ρ1 μ = .ok (p x) μ ∧ (p x = true → e ρ1 μ = .ok (f x) μ)) : fLc i a t e own ρ μ = .ok ((xs.filter p).map f) μ := by
  unfold fLc
  rw [hi, bind_ok, if_pos (by simpa using hl)]
  exact lcL_map toD p f hg xs h
theorem fLc_yes (toD : α → D) (f : α → D) {xs : List α} (hi : i ρ μ = .ok ⟨xs.map toD, gd⟩ μ) (hg : gd.ok μ) (hl : xs.length ≤ sizeLine)
    (h : ∀ x ∈ xs, ∃ ρ1, a (toD x) (wipeD ρ own) = some ρ1 ∧ e ρ1 μ = .ok (f x) μ) : fLc i a tYes e own ρ μ = .ok (xs.map f) μ := by
  unfold fLc
  rw [hi, bind_ok, if_pos (by simpa using hl)]
  exact lcL_yes toD f hg xs h
end
theorem sl1000 {n : Nat} (h : n ≤ 1000) : n ≤ sizeLine := by rw [sizeLine_eq]; omega
end Z
namespace Z
open PySem PySem.Spec PyProof.Rows
section
variable (ρ : Env) (μ : Mem) (i j : Int) (x y : Str) (ds es : List D)
theorem fIx_eq (a b : Sem) : fIx a b ρ μ = (a ρ μ).bind fun x μ => (b ρ μ).bind fun y μ => dIx x y μ := rfl
theorem add_int : dAdd (.int i) (.int j) μ = .ok (.int (i + j)) μ := rfl
theorem sub_int : dSub (.int i) (.int j) μ = .ok (.int (i - j)) μ := rfl
theorem neg_int : dNeg (.int i) μ = .ok (.int (-i)) μ := rfl
theorem lt_int : dLt (.int i) (.int j) μ = some (decide (i < j)) := rfl
theorem gt_int : dGt (.int i) (.int j) μ = some (decide (j < i)) := rfl
theorem le_int : dLe (.int i) (.int j) μ = some (decide (i ≤ j)) := rfl
theorem ge_int : dGe (.int i) (.int j) μ = some (decide (j ≤ i)) := rfl
theorem tru_bl (b : Bool) : truD μ (.bl b) = some b := rfl
theorem tru_lst : truD μ (.lst ds) = some (!ds.isEmpty) := rfl
theorem tru_int : truD μ (.int i) = some (i != 0) := rfl
theorem wk_l : wkD (.lst ds) μ = some ⟨ds, none⟩ := rfl
theorem wk_t : wkD (.tup ds) μ = some ⟨ds, none⟩ := rfl
theorem wk_s : wkD (.sq ds) μ = some ⟨ds, none⟩ := rfl
theorem wk_o {n : Nat} {ds : List D} (h : μ[n]? = some (.lst ds)) : wkD (.obj n) μ = some ⟨ds, some (n, .lst ds)⟩ := by simp [wkD, h]
theorem int_int : dInt [.int i] μ = .ok (.int i) μ := rfl
theorem max_int : dMax2 [.int i, .int j] μ = .ok (.int (max i j)) μ := rfl
theorem min_int : dMin2 [.int i, .int j] μ = .ok (.int (min i j)) μ := rfl
theorem rg_nat {n : Nat} (h : n < 2 ^ 62) : rg62 (n : Int) := ⟨by omega, by omega⟩
theorem is_non : dIs .non .non μ = some true := rfl
theorem is_non_int : dIs (.int i) .non μ = some false := rfl
theorem is_non_lst : dIs (.lst ds) .non μ = some false := rfl
theorem isn_non : dIsNot .non .non μ = some false := rfl
theorem isn_lst : dIsNot (.lst ds) .non μ = some true := rfl
theorem isn_int : dIsNot (.int i) .non μ = some true := rfl
theorem isi_int (T : Ty) : tyOf μ (.int i) = some .int := rfl
theorem isi_bl (b : Bool) : tyOf μ (.bl b) = some .bl := rfl
theorem list_l : dList [.lst ds] μ = .ok ds μ := rfl
theorem list_s : dList [.sq ds] μ = .ok ds μ := rfl
theorem list_t : dList [.tup ds] μ = .ok ds μ := rfl
end
end Z
namespace Z
open PySem PySem.Spec
theorem iRg1_eq {a : Sem} {ρ : Env} {μ μ' : Mem} {j : Int} (h : a ρ μ = .ok (.int j) μ') (hj : rg62 j) : iRg1 a ρ μ = .ok ⟨rangeD 0 j, none⟩ μ' := by
  unfold iRg1
  rw [h, bind_ok]
  exact if_pos hj
theorem iRg2_eq {a b : Sem} {ρ : Env} {μ μ1 μ' : Mem} {i j : Int} (h1 : a ρ μ = .ok (.int i) μ1) (h2 : b ρ μ1 = .ok (.int j) μ') (hi : rg62 i) (hj : rg62 j) : iRg2 a b ρ μ = .ok ⟨rangeD i j, none⟩ μ' := by
  unfold iRg2
  rw [h1, bind_ok, h2, bind_ok]
  exact if_pos ⟨hi, hj⟩
theorem rg1_ok {a : Sem} {ρ : Env} {μ μ' : Mem} {n : Nat} (h : a ρ μ = .ok (.int n) μ') (hn : n < 2 ^ 62) : iRg1 a ρ μ = .ok ⟨(List.range n).map fun (i : Nat) => D.int (i : Int), none⟩ μ' := by
  rw [iRg1_eq h (rg_nat hn), rangeD_nat]
theorem rg2_ok {a : Sem} {ρ : Env} {μ μ' : Mem} {n : Nat} (h : a ρ μ = .ok (.int n) μ') (hn : n < 2 ^ 62) : iRg2 (fC (.int 1)) a ρ μ = .ok ⟨(List.range (n - 1)).map fun (i : Nat) => D.int (1 + (i : Int)), none⟩ μ' := by
  rw [iRg2_eq (a := fC (.int 1)) (i := 1) rfl h (rg_nat (n := 1) (by decide)) (rg_nat hn)]
  unfold rangeD
  rw [show ((n : Int) - 1).toNat = n - 1 by omega]
end Z
namespace Z
open PySem PySem.Spec
section
variable {ρ ρ' : Env} {μ μ' : Mem} {a b : SemS} {f g : Sem} {fa : SemA} {t u : SemT} {d : D} {ds : List D} {k : Bool}
theorem seq_nx (h : a ρ μ = .next ρ' μ') : sSeq a b ρ μ = b ρ' μ' := by unfold sSeq; rw [h]; rfl
theorem seq_ret (h : a ρ μ = .ret d μ') : sSeq a b ρ μ = .ret d μ' := by unfold sSeq; rw [h]; rfl
theorem seq_exc {e : Ex} (h : a ρ μ = .exc e ρ' μ') : sSeq a b ρ μ = .exc e ρ' μ' := by unfold sSeq; rw [h]; rfl
theorem set_eq {i : Nat} (h : f ρ μ = .ok d μ') : sSet i f ρ μ = .next (ρ.set i (some d)) μ' := by unfold sSet; rw [h]; rfl
theorem drop_eq (h : f ρ μ = .ok d μ') : sDrop f ρ μ = .next ρ μ' := by unfold sDrop; rw [h]; rfl
theorem ret_eq (h : f ρ μ = .ok d μ') : sRet f ρ μ = .ret d μ' := by unfold sRet; rw [h]; rfl
theorem ret_exc {e : Ex} (h : f ρ μ = .exc e μ') : sRet f ρ μ = .exc e ρ μ' := by unfold sRet; rw [h]; rfl
theorem ret_bad {e : Ex} (h : f ρ μ = .bad) : sRet f ρ μ = .bad := by unfold sRet; rw [h]; rfl
theorem if_t (h : t ρ μ = .ok true μ') : sIf t a b ρ μ = a ρ μ' := by unfold sIf; rw [h]; rfl
theorem if_f (h : t ρ μ = .ok false μ') : sIf t a b ρ μ = b ρ μ' := by unfold sIf; rw [h]; rfl
theorem if_nx (h : t ρ μ = .ok false μ') : sIf t a sNext ρ μ = .next ρ μ' := by unfold sIf; rw [h]; rfl
theorem for_eq {i : SemI} {c : Tgt} {w : Wk} (h : i ρ μ = .ok w μ') : sFor i c b ρ μ = forL w.gd c b w.ds ρ μ' := by unfold sFor; rw [h]; rfl
theorem tree_eq (h : fa ρ μ = .ok ds μ') : fTree fa ρ μ = .ok (.lst ds) μ' := by unfold fTree; rw [h]; rfl
theorem cons1_eq (h : f ρ μ = .ok d μ') : fCons f fNil ρ μ = .ok [d] μ' := by unfold fCons; rw [h]; rfl
theorem bl_eq {op : List D → Mem → R (List D)} (h : fa ρ μ = .ok ds μ') : fBl op fa ρ μ = op ds μ' := by unfold fBl; rw [h]; rfl
theorem bi_eq {op : DFn} (h : fa ρ μ = .ok ds μ') : fBi op fa ρ μ = op ds μ' := by unfold fBi; rw [h]; rfl
theorem call_eq {S : DFn} {n : Nat} (h : fa ρ μ = .ok ds μ') (hn : ds.length = n) : fCall S n [] fa ρ μ = S ds μ' := by unfold fCall; rw [h, bind_ok, List.append_nil, if_pos hn]
theorem tor_f (h : t ρ μ = .ok false μ') : Z.tOr t u ρ μ = u ρ μ' := by unfold Z.tOr; rw [h]; rfl
theorem tor_t (h : t ρ μ = .ok true μ') : Z.tOr t u ρ μ = .ok true μ' := by unfold Z.tOr; rw [h]; rfl
theorem tne_refl (h1 : f ρ μ = .ok d μ) (h2 : g ρ μ = .ok d μ) (t : d.isT = true) (fi : D.fit 9 d = true) : Z.tCmp dNe f g ρ μ = .ok false μ := by
  unfold Z.tCmp
  rw [h1, bind_ok, h2, bind_ok, dNe_refl t fi]; rfl
theorem val_eq {w : Wk} (h : f ρ μ = .ok d μ') (hw : wkD d μ' = some w) : iVal f ρ μ = .ok w μ' := by unfold iVal; rw [h, bind_ok, hw]; rfl
end
end Z
namespace Z
open PySem PySem.Spec
section
variable {ρ ρ' : Env} {μ μ1 μ2 μ' : Mem} {f g : Sem} {fa : SemA} {t u : SemT} {d e : D} {ds es : List D} {k : Bool} {c c' : Cm}
theorem nil_eq : fNil ρ μ = .ok [] μ := rfl
theorem cons_eq (h : f ρ μ = .ok d μ1) (h2 : fa ρ μ1 = .ok ds μ2) : fCons f fa ρ μ = .ok (d :: ds) μ2 := by unfold fCons; rw [h, bind_ok, h2]; rfl
theorem tup_eq (h : fa ρ μ = .ok ds μ') (hl : ds.length ≤ 1000) : fTup fa ρ μ = .ok (.tup ds) μ' := by unfold fTup; rw [h, bind_ok, if_pos (sl1000 hl)]
theorem items_eq (h : fa ρ μ = .ok ds μ') (hl : ds.length ≤ 1000) : fItems fa ρ μ = .ok ds μ' := by unfold fItems; rw [h, bind_ok, if_pos (sl1000 hl)]
theorem op2_eq {op : D → D → Mem → R D} (h : f ρ μ = .ok d μ1) (h2 : g ρ μ1 = .ok e μ2) : fOp2 op f g ρ μ = op d e μ2 := by unfold fOp2; rw [h, bind_ok, h2]; rfl
theorem ix_eq (h : f ρ μ = .ok d μ1) (h2 : g ρ μ1 = .ok e μ2) : fIx f g ρ μ = dIx d e μ2 := by rw [fIx_eq, h, bind_ok, h2]; rfl
theorem tc_eq (h : f ρ μ = .ok d μ1) (h2 : g ρ μ1 = .ok e μ2) (hc : c d e μ2 = some k) : Z.tCmp c f g ρ μ = .ok k μ2 := by unfold Z.tCmp; rw [h, bind_ok, h2, bind_ok, hc]; rfl
theorem fc_eq (h : f ρ μ = .ok d μ1) (h2 : g ρ μ1 = .ok e μ2) (hc : c d e μ2 = some k) : fCmp c f g ρ μ = .ok (.bl k) μ2 := by unfold fCmp; rw [h, bind_ok, h2, bind_ok, hc]; rfl
theorem tch_eq {x : Sem} {b : D} {k' : Bool} (h : f ρ μ = .ok d μ) (h2 : g ρ μ = .ok e μ) (h3 : x ρ μ = .ok b μ) (hc : c d e μ = some k) (hc' : c' e b μ = some k') : Z.tChain c c' f g x ρ μ = .ok (k && k') μ := by
  unfold Z.tChain
  rw [h, bind_ok, h2, bind_ok, hc, ofP_some, bind_ok]
  cases k with
  | false => rfl
  | true => rw [if_pos rfl, h3, bind_ok, hc']; rfl
theorem and_eq {k' : Bool} (h : t ρ μ = .ok k μ) (h2 : u ρ μ = .ok k' μ) : Z.tAnd t u ρ μ = .ok (k && k') μ := by
  unfold Z.tAnd
  rw [h, bind_ok]
  cases k with
  | false => rfl
  | true => rw [if_pos rfl, h2]; rfl
theorem or_eq {k' : Bool} (h : t ρ μ = .ok k μ) (h2 : u ρ μ = .ok k' μ) : Z.tOr t u ρ μ = .ok (k || k') μ := by
  unfold Z.tOr
  rw [h, bind_ok]
  cases k with
  | true => rfl
  | false => rw [if_neg (by simp), h2]; rfl
theorem not_eq (h : t ρ μ = .ok k μ') : Z.tNot t ρ μ = .ok (!k) μ' := by unfold Z.tNot; rw [h]; rfl
theorem tru_eq (h : f ρ μ = .ok d μ') (ht : truD μ' d = some k) : fTru f ρ μ = .ok k μ' := by unfold fTru; rw [h, bind_ok, ht]; rfl
theorem fif_t (h : t ρ μ = .ok true μ') : fIf t f g ρ μ = f ρ μ' := by unfold fIf; rw [h, bind_ok, if_pos rfl]
theorem fif_f (h : t ρ μ = .ok false μ') : fIf t f g ρ μ = g ρ μ' := by unfold fIf; rw [h, bind_ok, if_neg (by simp)]
theorem box_eq (h : fa ρ μ = .ok ds μ') : fBox fa ρ μ = .ok (.obj μ'.length) (μ' ++ [.lst ds]) := by unfold fBox; rw [h]; rfl
theorem c_eq : fC d ρ μ = .ok d μ := rfl
end
end Z

namespace K25
open PySem PySem.Spec PyProof.Rows L2 Z
def bd : List Stmt := PySem.Challenge.pw_innworth_k25_rooms_that_change.main.body
def cat_InvalidPaper : Str → Option Bool := fun c => if c = "InvalidPaper" then some true else none
structure Mod (K : PySem.W.Frag) (mg : Str → Option Value) (F : Fx) : Prop where
  g_sorted : mg "sorted" = none
  g_len : mg "len" = none
  g_range : mg "range" = none
  g_list : mg "list" = none
  g_isinstance : mg "isinstance" = none
  g_bool : mg "bool" = none
  g_max : mg "max" = none
  g_sum : mg "sum" = none
  g_str : mg "str" = none
  g_abs : mg "abs" = none
  g_int : mg "int" = none
  x_InvalidPaper : XCls K mg F.xc "InvalidPaper"
  t_InvalidPaper : Cat K mg F.xc "InvalidPaper" cat_InvalidPaper
def s_rooms : Stmt := bd.getD 4 (.Pass ⟨0, 0, 0, 0⟩)
def n_rooms : List Str := ["stays", "found", "stay", "place", "row"]
theorem sc_rooms : FnScope n_rooms ["stays"] (defScope s_rooms) := ⟨rfl, rfl, rfl, by decide +kernel, rfl, by decide +kernel, by decide +kernel⟩
noncomputable def b_rooms : SemS := (sSeq (sSet 1 (fBox (fItems fNil))) (sSeq (sFor (iVal (fTree (fBl dSort (fCons (fV 0) fNil)))) (aNm 2) (sSeq (sSet 3 (fC (.int 0))) (sSeq (sWhile (tAnd (tCmp dLt (fV 3) (fBi dLen (fCons (fV 1) fNil))) (tCmp dGe (fIx (fIx (fIx (fV 1) (fV 3)) (fOp1 dNeg (fC (.int 1)))) (fC (.int 1))) (fIx (fV 2) (fC (.int 0))))) (sSet 3 (fOp2 dAdd (fV 3) (fC (.int 1))))) (sSeq (sIf (tCmp dEq (fV 3) (fBi dLen (fCons (fV 1) fNil))) (sDrop (fMtT "list" dAppend (fV 1) (fCons (fBox (fItems fNil)) fNil))) sNext) (sSeq (sSet 4 (fIx (fV 1) (fV 3))) (sDrop (fMtT "list" dAppend (fV 4) (fCons (fV 2) fNil)))))))) (sRet (fFzN 2 1))))
noncomputable def S_rooms : DFn := dfn 5 b_rooms
theorem d_rooms {P : Program} {w : World} {K : PySem.W.Frag} {mg : Str → Option Value} {base : Heap} {F : Fx} (hF : F.K = K) (M : Mod K mg F) {f : Addr} (cdv : Value) (A : Around) (outer : List PySem.Env) (s : Shared) (H : Hp) (E : XK) (hr : Room 0 (A.deeper (envOfC "rooms" (defScope s_rooms) s.heap.objs.size f cdv))) :
  SSs (cxOf (L2.CX P w) P w K mg base n_rooms "rooms" (defScope s_rooms) f cdv A outer s H E) F (fun c d _ H' => E c d H') (defBody s_rooms) b_rooms := by
  have C := ctx_of (P := P) (w := w) (mg := mg) (base := base) (N := n_rooms) (qual := "rooms") (sc := defScope s_rooms) (f := f) (cdv := cdv) (A := A) (outer := outer) (s := s) (H := H) (E := E) (F := F) (L := 0) hF (by decide +kernel) hr
  exact (sss_cons (ss_set 1 C.n (se_box (sf_lst sa_nil)))
  (sss_cons (ss_for C.p C.c (si_val C.k (se_tree (sf_bi (cf_sort C.k) cm_sort M.g_sorted (sa_cons (se_v 0) sa_nil)))) (sg_nm 2 C.n) (sss_cons (ss_set 3 C.n se_int)
  (sss_cons (ss_while C.p ((sw_and (st_cmp oc_lt (se_v 3) (se_bi (cd_len C.k) cm_len M.g_len (sa_cons (se_v 1) sa_nil))) (sw_and1 (st_cmp oc_ge (se_ix C.k C.u (se_ix C.k C.u (se_ix C.k C.u (se_v 1) (se_v 3)) (se_op1 cm_neg od_neg se_int)) se_int) (se_ix C.k C.u (se_v 2) se_int))))).st (sss_one (ss_set 3 C.n (se_op2 cm_add (od_add C.k) (se_v 3) se_int))))
  (sss_cons (ss_if (st_cmp (oc_eq C.k C.u) (se_v 3) (se_bi (cd_len C.k) cm_len M.g_len (sa_cons (se_v 1) sa_nil))) (sss_one (ss_drop (se_mt C.k (by decide) PySem.F.plainAttrs_list PySem.F.slot_list_append PySem.F.type_list_append md_append cm_append (se_v 1) (sa_cons (se_box (sf_lst sa_nil)) sa_nil)))) sss_nil)
  (sss_cons (ss_set 4 C.n (se_ix C.k C.u (se_v 1) (se_v 3)))
  (sss_one (ss_drop (se_mt C.k (by decide) PySem.F.plainAttrs_list PySem.F.slot_list_append PySem.F.type_list_append md_append cm_append (se_v 4) (sa_cons (se_v 2) sa_nil)))))))))
  (sss_one (ss_ret (se_fzN 2 1)))))
def s_is_housed : Stmt := bd.getD 5 (.Pass ⟨0, 0, 0, 0⟩)
def n_is_housed : List Str := ["stays", "told", "done", "row", "ordered", "k"]
theorem sc_is_housed : FnScope n_is_housed ["stays", "told"] (defScope s_is_housed) := ⟨rfl, rfl, rfl, by decide +kernel, rfl, by decide +kernel, by decide +kernel⟩
noncomputable def b_is_housed : SemS := (sSeq (sSet 2 (fTree (fItems fNil))) (sSeq (sFor (iVal (fV 1)) (aNm 3) (sSeq (sSet 4 (fTree (fBl dSort (fCons (fV 3) fNil)))) (sSeq (sFor (iRg2 (fC (.int 1)) (fBi dLen (fCons (fV 4) fNil))) (aNm 5) (sIf (tCmp dLe (fIx (fIx (fV 4) (fV 5)) (fC (.int 0))) (fIx (fIx (fV 4) (fOp2 dSub (fV 5) (fC (.int 1)))) (fC (.int 1)))) (sRet (fC (.bl false))) sNext)) (sSet 2 (fTree (fCat (fV 2) (fTree (fBl dList (fCons (fV 3) fNil))))))))) (sRet (fCmp dEq (fTree (fBl dSort (fCons (fV 2) fNil))) (fTree (fBl dSort (fCons (fV 0) fNil)))))))
noncomputable def S_is_housed : DFn := dfn 6 b_is_housed
theorem d_is_housed {P : Program} {w : World} {K : PySem.W.Frag} {mg : Str → Option Value} {base : Heap} {F : Fx} (hF : F.K = K) (M : Mod K mg F) {f : Addr} (cdv : Value) (A : Around) (outer : List PySem.Env) (s : Shared) (H : Hp) (E : XK) (hr : Room 0 (A.deeper (envOfC "is_housed" (defScope s_is_housed) s.heap.objs.size f cdv))) :
  SSs (cxOf (L2.CX P w) P w K mg base n_is_housed "is_housed" (defScope s_is_housed) f cdv A outer s H E) F (fun c d _ H' => E c d H') (defBody s_is_housed) b_is_housed := by
  have C := ctx_of (P := P) (w := w) (mg := mg) (base := base) (N := n_is_housed) (qual := "is_housed") (sc := defScope s_is_housed) (f := f) (cdv := cdv) (A := A) (outer := outer) (s := s) (H := H) (E := E) (F := F) (L := 0) hF (by decide +kernel) hr
  exact (sss_cons (ss_set 2 C.n (se_tree (sf_lst sa_nil)))
  (sss_cons (ss_for C.p C.c (si_val C.k (se_v 1)) (sg_nm 3 C.n) (sss_cons (ss_set 4 C.n (se_tree (sf_bi (cf_sort C.k) cm_sort M.g_sorted (sa_cons (se_v 3) sa_nil))))
  (sss_cons (ss_for C.p C.c (si_rg2 se_int (se_bi (cd_len C.k) cm_len M.g_len (sa_cons (se_v 4) sa_nil)) M.g_range) (sg_nm 5 C.n) (sss_one (ss_if (st_cmp oc_le (se_ix C.k C.u (se_ix C.k C.u (se_v 4) (se_v 5)) se_int) (se_ix C.k C.u (se_ix C.k C.u (se_v 4) (se_op2 cm_sub od_sub (se_v 5) se_int)) se_int)) (sss_one (ss_ret se_bl)) sss_nil)))
  (sss_one (ss_set 2 C.n (se_tree (sf_cat (se_v 2) (se_tree (sf_bty (cf_list C.k) cm_list M.g_list (sa_cons (se_v 3) sa_nil))))))))))
  (sss_one (ss_ret (se_cmp (oc_eq C.k C.u) (se_tree (sf_bi (cf_sort C.k) cm_sort M.g_sorted (sa_cons (se_v 2) sa_nil))) (se_tree (sf_bi (cf_sort C.k) cm_sort M.g_sorted (sa_cons (se_v 0) sa_nil))))))))
def s_free_rooms : Stmt := bd.getD 6 (.Pass ⟨0, 0, 0, 0⟩)
def n_free_rooms : List Str := ["told", "first", "last", "found", "place", "stay"]
theorem sc_free_rooms : FnScope n_free_rooms ["told", "first", "last"] (defScope s_free_rooms) := ⟨rfl, rfl, rfl, by decide +kernel, rfl, by decide +kernel, by decide +kernel⟩
noncomputable def b_free_rooms : SemS := (sSeq (sSet 3 (fBox (fItems fNil))) (sSeq (sFor (iRg1 (fBi dLen (fCons (fV 0) fNil))) (aNm 4) (sIf (tNot (fTru (fTree (fLc (iVal (fIx (fV 0) (fV 4))) (aNm 5) (tAnd (tCmp dLe (fIx (fV 5) (fC (.int 0))) (fV 2)) (tCmp dLe (fV 1) (fIx (fV 5) (fC (.int 1))))) (fV 5) [5])))) (sDrop (fMtT "list" dAppend (fV 3) (fCons (fV 4) fNil))) sNext)) (sRet (fFz 3))))
noncomputable def S_free_rooms : DFn := dfn 6 b_free_rooms
theorem d_free_rooms {P : Program} {w : World} {K : PySem.W.Frag} {mg : Str → Option Value} {base : Heap} {F : Fx} (hF : F.K = K) (M : Mod K mg F) {f : Addr} (cdv : Value) (A : Around) (outer : List PySem.Env) (s : Shared) (H : Hp) (E : XK) (hr : Room 0 (A.deeper (envOfC "free_rooms" (defScope s_free_rooms) s.heap.objs.size f cdv))) :
  SSs (cxOf (L2.CX P w) P w K mg base n_free_rooms "free_rooms" (defScope s_free_rooms) f cdv A outer s H E) F (fun c d _ H' => E c d H') (defBody s_free_rooms) b_free_rooms := by
  have C := ctx_of (P := P) (w := w) (mg := mg) (base := base) (N := n_free_rooms) (qual := "free_rooms") (sc := defScope s_free_rooms) (f := f) (cdv := cdv) (A := A) (outer := outer) (s := s) (H := H) (E := E) (F := F) (L := 0) hF (by decide +kernel) hr
  exact (sss_cons (ss_set 3 C.n (se_box (sf_lst sa_nil)))
  (sss_cons (ss_for C.p C.c (si_rg1 (se_bi (cd_len C.k) cm_len M.g_len (sa_cons (se_v 0) sa_nil)) M.g_range) (sg_nm 4 C.n) (sss_one (ss_if (st_not (st_tru C.k (se_tree (sf_lc C.n C.c (si_val C.k (se_ix C.k C.u (se_v 0) (se_v 4))) (own := [("stay", 5)]) (L2.blkOk_by (by kernel_rfl)) (fun _ _ _ _ _ => C.bG fun C => (sw_nm 5 C.n)) (fun _ _ _ _ _ => C.bT fun C => (spt_one ((sw_and (st_cmp oc_le (se_ix C.k C.u (se_v 5) se_int) (se_v 2)) (sw_and1 (st_cmp oc_le (se_v 1) (se_ix C.k C.u (se_v 5) se_int))))).st)) (fun _ _ _ _ _ => C.bE fun C => (se_v 5)))))) (sss_one (ss_drop (se_mt C.k (by decide) PySem.F.plainAttrs_list PySem.F.slot_list_append PySem.F.type_list_append md_append cm_append (se_v 3) (sa_cons (se_v 4) sa_nil)))) sss_nil)))
  (sss_one (ss_ret (se_fz 3)))))
def s_exchange : Stmt := bd.getD 8 (.Pass ⟨0, 0, 0, 0⟩)
def n_exchange : List Str := ["told", "one", "other", "night", "place", "stay", "found", "row", "early", "late"]
theorem sc_exchange : FnScope n_exchange ["told", "one", "other", "night"] (defScope s_exchange) := ⟨rfl, rfl, rfl, by decide +kernel, rfl, by decide +kernel, by decide +kernel⟩
noncomputable def b_exchange : SemS := (sSeq (sFor (iVal (fTup (fCons (fV 1) (fCons (fV 2) fNil)))) (aNm 4) (sSeq (sIf (tOr (fTru (fIsI .bl (fV 4))) (tNot (tChain dLe dLt (fC (.int 0)) (fV 4) (fBi dLen (fCons (fV 0) fNil))))) (sRaise "InvalidPaper" (fCons (fC (.str "no room")) fNil)) sNext) (sIf (fTru (fTree (fLc (iVal (fIx (fV 0) (fV 4))) (aNm 5) (tChain dLt dLe (fIx (fV 5) (fC (.int 0))) (fV 3) (fIx (fV 5) (fC (.int 1)))) (fV 5) [5]))) (sRaise "InvalidPaper" (fCons (fC (.str "over the night")) fNil)) sNext))) (sSeq (sSet 6 (fBox (fLc (iVal (fV 0)) (aNm 7) tYes (fTree (fBl dList (fCons (fV 7) fNil))) [7]))) (sSeq (sIf (tCmp dNe (fV 1) (fV 2)) (sSeq (sSet 8 (fTree (fLc (iVal (fTup (fCons (fV 1) (fCons (fV 2) fNil)))) (aNm 4) tYes (fTree (fLc (iVal (fIx (fV 0) (fV 4))) (aNm 5) (tCmp dLt (fIx (fV 5) (fC (.int 0))) (fV 3)) (fV 5) [5])) [4]))) (sSeq (sSet 9 (fTree (fLc (iVal (fTup (fCons (fV 1) (fCons (fV 2) fNil)))) (aNm 4) tYes (fTree (fLc (iVal (fIx (fV 0) (fV 4))) (aNm 5) (tCmp dGe (fIx (fV 5) (fC (.int 0))) (fV 3)) (fV 5) [5])) [4]))) (sSeq (sSetI (fV 6) (fV 1) (fTree (fCat (fIx (fV 8) (fC (.int 0))) (fIx (fV 9) (fC (.int 1)))))) (sSetI (fV 6) (fV 2) (fTree (fCat (fIx (fV 8) (fC (.int 1))) (fIx (fV 9) (fC (.int 0))))))))) sNext) (sRet (fFz 6)))))
noncomputable def S_exchange : DFn := dfn 10 b_exchange
theorem d_exchange {P : Program} {w : World} {K : PySem.W.Frag} {mg : Str → Option Value} {base : Heap} {F : Fx} (hF : F.K = K) (M : Mod K mg F) {f : Addr} (cdv : Value) (A : Around) (outer : List PySem.Env) (s : Shared) (H : Hp) (E : XK) (hr : Room 0 (A.deeper (envOfC "exchange" (defScope s_exchange) s.heap.objs.size f cdv))) :
  SSs (cxOf (L2.CX P w) P w K mg base n_exchange "exchange" (defScope s_exchange) f cdv A outer s H E) F (fun c d _ H' => E c d H') (defBody s_exchange) b_exchange := by
  have C := ctx_of (P := P) (w := w) (mg := mg) (base := base) (N := n_exchange) (qual := "exchange") (sc := defScope s_exchange) (f := f) (cdv := cdv) (A := A) (outer := outer) (s := s) (H := H) (E := E) (F := F) (L := 0) hF (by decide +kernel) hr
  exact (sss_cons (ss_for C.p C.c (si_val C.k (se_tup (sa_cons (se_v 1) (sa_cons (se_v 2) sa_nil)))) (sg_nm 4 C.n) (sss_cons (ss_if ((sw_or (st_tru C.k (se_isi .bl C.k M.g_isinstance M.g_bool (se_v 4))) (sw_or1 (st_not (st_chain oc_le oc_lt se_int (se_v 4) (se_bi (cd_len C.k) cm_len M.g_len (sa_cons (se_v 0) sa_nil))))))).st (sss_one (ss_raise M.x_InvalidPaper C.c C.t (sa_cons se_str sa_nil))) sss_nil)
  (sss_one (ss_if (st_tru C.k (se_tree (sf_lc C.n C.c (si_val C.k (se_ix C.k C.u (se_v 0) (se_v 4))) (own := [("stay", 5)]) (L2.blkOk_by (by kernel_rfl)) (fun _ _ _ _ _ => C.bG fun C => (sw_nm 5 C.n)) (fun _ _ _ _ _ => C.bT fun C => (spt_one (st_chain oc_lt oc_le (se_ix C.k C.u (se_v 5) se_int) (se_v 3) (se_ix C.k C.u (se_v 5) se_int)))) (fun _ _ _ _ _ => C.bE fun C => (se_v 5))))) (sss_one (ss_raise M.x_InvalidPaper C.c C.t (sa_cons se_str sa_nil))) sss_nil))))
  (sss_cons (ss_setLc 6 true C.n C.c (si_val C.k (se_v 0)) (own := [("row", 7)]) (L2.blkOk_by (by kernel_rfl)) (fun _ _ _ _ _ => C.bG fun C => (sw_nm 7 C.n)) (fun _ _ _ _ _ => C.bT fun C => spt_nil) (fun _ _ _ _ _ => C.bE fun C => (se_tree (sf_bty (cf_list C.k) cm_list M.g_list (sa_cons (se_v 7) sa_nil)))))
  (sss_cons (ss_if (st_cmp (oc_ne C.k C.u) (se_v 1) (se_v 2)) (sss_cons (ss_setLc 8 false C.n C.c (si_val C.k (se_tup (sa_cons (se_v 1) (sa_cons (se_v 2) sa_nil)))) (own := [("place", 4)]) (L2.blkOk_by (by kernel_rfl)) (fun _ _ _ _ _ => C.bG fun C => (sw_nm 4 C.n)) (fun _ _ _ _ _ => C.bT fun C => spt_nil) (fun _ _ _ _ _ => C.bE fun C => (se_tree (sf_lc C.n C.c (si_val C.k (se_ix C.k C.u (se_v 0) (se_v 4))) (own := [("stay", 5)]) (L2.blkOk_by (by kernel_rfl)) (fun _ _ _ _ _ => C.bG fun C => (sw_nm 5 C.n)) (fun _ _ _ _ _ => C.bT fun C => (spt_one (st_cmp oc_lt (se_ix C.k C.u (se_v 5) se_int) (se_v 3)))) (fun _ _ _ _ _ => C.bE fun C => (se_v 5))))))
  (sss_cons (ss_setLc 9 false C.n C.c (si_val C.k (se_tup (sa_cons (se_v 1) (sa_cons (se_v 2) sa_nil)))) (own := [("place", 4)]) (L2.blkOk_by (by kernel_rfl)) (fun _ _ _ _ _ => C.bG fun C => (sw_nm 4 C.n)) (fun _ _ _ _ _ => C.bT fun C => spt_nil) (fun _ _ _ _ _ => C.bE fun C => (se_tree (sf_lc C.n C.c (si_val C.k (se_ix C.k C.u (se_v 0) (se_v 4))) (own := [("stay", 5)]) (L2.blkOk_by (by kernel_rfl)) (fun _ _ _ _ _ => C.bG fun C => (sw_nm 5 C.n)) (fun _ _ _ _ _ => C.bT fun C => (spt_one (st_cmp oc_ge (se_ix C.k C.u (se_v 5) se_int) (se_v 3)))) (fun _ _ _ _ _ => C.bE fun C => (se_v 5))))))
  (sss_cons (ss_setI C.u (se_v 6) (se_v 1) (se_tree (sf_cat (se_ix C.k C.u (se_v 8) se_int) (se_ix C.k C.u (se_v 9) se_int))))
  (sss_one (ss_setI C.u (se_v 6) (se_v 2) (se_tree (sf_cat (se_ix C.k C.u (se_v 8) se_int) (se_ix C.k C.u (se_v 9) se_int)))))))) sss_nil)
  (sss_one (ss_ret (se_fz 6))))))
def s_nights_taken : Stmt := bd.getD 10 (.Pass ⟨0, 0, 0, 0⟩)
def n_nights_taken : List Str := ["told", "stay", "row"]
theorem sc_nights_taken : FnScope n_nights_taken ["told"] (defScope s_nights_taken) := ⟨rfl, rfl, rfl, by decide +kernel, rfl, by decide +kernel, by decide +kernel⟩
noncomputable def b_nights_taken : SemS := (sRet (fTree (fLc (iVal (fV 0)) (aNm 2) tYes (fBi dSum (fCons (fTree (fLc (iVal (fV 2)) (aNm 1) tYes (fOp2 dAdd (fOp2 dSub (fIx (fV 1) (fC (.int 1))) (fIx (fV 1) (fC (.int 0)))) (fC (.int 1))) [1])) fNil)) [2])))
noncomputable def S_nights_taken : DFn := dfn 3 b_nights_taken
theorem d_nights_taken {P : Program} {w : World} {K : PySem.W.Frag} {mg : Str → Option Value} {base : Heap} {F : Fx} (hF : F.K = K) (M : Mod K mg F) {f : Addr} (cdv : Value) (A : Around) (outer : List PySem.Env) (s : Shared) (H : Hp) (E : XK) (hr : Room 0 (A.deeper (envOfC "nights_taken" (defScope s_nights_taken) s.heap.objs.size f cdv))) :
  SSs (cxOf (L2.CX P w) P w K mg base n_nights_taken "nights_taken" (defScope s_nights_taken) f cdv A outer s H E) F (fun c d _ H' => E c d H') (defBody s_nights_taken) b_nights_taken := by
  have C := ctx_of (P := P) (w := w) (mg := mg) (base := base) (N := n_nights_taken) (qual := "nights_taken") (sc := defScope s_nights_taken) (f := f) (cdv := cdv) (A := A) (outer := outer) (s := s) (H := H) (E := E) (F := F) (L := 0) hF (by decide +kernel) hr
  exact (sss_one (ss_ret (se_tree (sf_lc C.n C.c (si_val C.k (se_v 0)) (own := [("row", 2)]) (L2.blkOk_by (by kernel_rfl)) (fun _ _ _ _ _ => C.bG fun C => (sw_nm 2 C.n)) (fun _ _ _ _ _ => C.bT fun C => spt_nil) (fun _ _ _ _ _ => C.bE fun C => (se_bi (cd_sum C.k C.c) cm_sum M.g_sum (sa_cons (se_tree (sf_lc C.n C.c (si_val C.k (se_v 2)) (own := [("stay", 1)]) (L2.blkOk_by (by kernel_rfl)) (fun _ _ _ _ _ => C.bG fun C => (sw_nm 1 C.n)) (fun _ _ _ _ _ => C.bT fun C => spt_nil) (fun _ _ _ _ _ => C.bE fun C => (se_op2 cm_add (od_add C.k) (se_op2 cm_sub od_sub (se_ix C.k C.u (se_v 1) se_int) (se_ix C.k C.u (se_v 1) se_int)) se_int)))) sa_nil)))))))
def s_changes : Stmt := bd.getD 11 (.Pass ⟨0, 0, 0, 0⟩)
def n_changes : List Str := ["told", "night", "come", "leave", "place", "stay"]
theorem sc_changes : FnScope n_changes ["told", "night"] (defScope s_changes) := ⟨rfl, rfl, rfl, by decide +kernel, rfl, by decide +kernel, by decide +kernel⟩
noncomputable def b_changes : SemS := (sSeq (sSet 2 (fTree (fItems fNil))) (sSeq (sSet 3 (fTree (fItems fNil))) (sSeq (sFor (iRg1 (fBi dLen (fCons (fV 0) fNil))) (aNm 4) (sSeq (sSet 2 (fTree (fCat (fV 2) (fTree (fLc (iVal (fIx (fV 0) (fV 4))) (aNm 5) (tCmp dEq (fIx (fV 5) (fC (.int 0))) (fV 1)) (fTup (fCons (fV 4) (fCons (fV 5) fNil))) [5]))))) (sSet 3 (fTree (fCat (fV 3) (fTree (fLc (iVal (fIx (fV 0) (fV 4))) (aNm 5) (tCmp dEq (fIx (fV 5) (fC (.int 1))) (fOp2 dSub (fV 1) (fC (.int 1)))) (fTup (fCons (fV 4) (fCons (fV 5) fNil))) [5]))))))) (sRet (fTup (fCons (fV 2) (fCons (fV 3) fNil)))))))
noncomputable def S_changes : DFn := dfn 6 b_changes
theorem d_changes {P : Program} {w : World} {K : PySem.W.Frag} {mg : Str → Option Value} {base : Heap} {F : Fx} (hF : F.K = K) (M : Mod K mg F) {f : Addr} (cdv : Value) (A : Around) (outer : List PySem.Env) (s : Shared) (H : Hp) (E : XK) (hr : Room 0 (A.deeper (envOfC "changes" (defScope s_changes) s.heap.objs.size f cdv))) :
  SSs (cxOf (L2.CX P w) P w K mg base n_changes "changes" (defScope s_changes) f cdv A outer s H E) F (fun c d _ H' => E c d H') (defBody s_changes) b_changes := by
  have C := ctx_of (P := P) (w := w) (mg := mg) (base := base) (N := n_changes) (qual := "changes") (sc := defScope s_changes) (f := f) (cdv := cdv) (A := A) (outer := outer) (s := s) (H := H) (E := E) (F := F) (L := 0) hF (by decide +kernel) hr
  exact (sss_cons (ss_set 2 C.n (se_tree (sf_lst sa_nil)))
  (sss_cons (ss_set 3 C.n (se_tree (sf_lst sa_nil)))
  (sss_cons (ss_for C.p C.c (si_rg1 (se_bi (cd_len C.k) cm_len M.g_len (sa_cons (se_v 0) sa_nil)) M.g_range) (sg_nm 4 C.n) (sss_cons (ss_set 2 C.n (se_tree (sf_cat (se_v 2) (se_tree (sf_lc C.n C.c (si_val C.k (se_ix C.k C.u (se_v 0) (se_v 4))) (own := [("stay", 5)]) (L2.blkOk_by (by kernel_rfl)) (fun _ _ _ _ _ => C.bG fun C => (sw_nm 5 C.n)) (fun _ _ _ _ _ => C.bT fun C => (spt_one (st_cmp (oc_eq C.k C.u) (se_ix C.k C.u (se_v 5) se_int) (se_v 1)))) (fun _ _ _ _ _ => C.bE fun C => (se_tup (sa_cons (se_v 4) (sa_cons (se_v 5) sa_nil)))))))))
  (sss_one (ss_set 3 C.n (se_tree (sf_cat (se_v 3) (se_tree (sf_lc C.n C.c (si_val C.k (se_ix C.k C.u (se_v 0) (se_v 4))) (own := [("stay", 5)]) (L2.blkOk_by (by kernel_rfl)) (fun _ _ _ _ _ => C.bG fun C => (sw_nm 5 C.n)) (fun _ _ _ _ _ => C.bT fun C => (spt_one (st_cmp (oc_eq C.k C.u) (se_ix C.k C.u (se_v 5) se_int) (se_op2 cm_sub od_sub (se_v 1) se_int)))) (fun _ _ _ _ _ => C.bE fun C => (se_tup (sa_cons (se_v 4) (sa_cons (se_v 5) sa_nil))))))))))))
  (sss_one (ss_ret (se_tup (sa_cons (se_v 2) (sa_cons (se_v 3) sa_nil))))))))
def s_together : Stmt := bd.getD 12 (.Pass ⟨0, 0, 0, 0⟩)
def n_together : List Str := ["told", "ask", "place", "stay"]
theorem sc_together : FnScope n_together ["told", "ask"] (defScope s_together) := ⟨rfl, rfl, rfl, by decide +kernel, rfl, by decide +kernel, by decide +kernel⟩
noncomputable def b_together : SemS := (sRet (fTree (fLc (iRg1 (fBi dLen (fCons (fV 0) fNil))) (aNm 2) (fTru (fTree (fLc (iVal (fIx (fV 0) (fV 2))) (aNm 3) (tCmp dEq (fIx (fV 3) (fC (.int 2))) (fV 1)) (fV 3) [3]))) (fV 2) [2])))
noncomputable def S_together : DFn := dfn 4 b_together
theorem d_together {P : Program} {w : World} {K : PySem.W.Frag} {mg : Str → Option Value} {base : Heap} {F : Fx} (hF : F.K = K) (M : Mod K mg F) {f : Addr} (cdv : Value) (A : Around) (outer : List PySem.Env) (s : Shared) (H : Hp) (E : XK) (hr : Room 0 (A.deeper (envOfC "together" (defScope s_together) s.heap.objs.size f cdv))) :
  SSs (cxOf (L2.CX P w) P w K mg base n_together "together" (defScope s_together) f cdv A outer s H E) F (fun c d _ H' => E c d H') (defBody s_together) b_together := by
  have C := ctx_of (P := P) (w := w) (mg := mg) (base := base) (N := n_together) (qual := "together") (sc := defScope s_together) (f := f) (cdv := cdv) (A := A) (outer := outer) (s := s) (H := H) (E := E) (F := F) (L := 0) hF (by decide +kernel) hr
  exact (sss_one (ss_ret (se_tree (sf_lc C.n C.c (si_rg1 (se_bi (cd_len C.k) cm_len M.g_len (sa_cons (se_v 0) sa_nil)) M.g_range) (own := [("place", 2)]) (L2.blkOk_by (by kernel_rfl)) (fun _ _ _ _ _ => C.bG fun C => (sw_nm 2 C.n)) (fun _ _ _ _ _ => C.bT fun C => (spt_one (st_tru C.k (se_tree (sf_lc C.n C.c (si_val C.k (se_ix C.k C.u (se_v 0) (se_v 2))) (own := [("stay", 3)]) (L2.blkOk_by (by kernel_rfl)) (fun _ _ _ _ _ => C.bG fun C => (sw_nm 3 C.n)) (fun _ _ _ _ _ => C.bT fun C => (spt_one (st_cmp (oc_eq C.k C.u) (se_ix C.k C.u (se_v 3) se_int) (se_v 1)))) (fun _ _ _ _ _ => C.bE fun C => (se_v 3))))))) (fun _ _ _ _ _ => C.bE fun C => (se_v 2))))))
def s_room_lines : Stmt := bd.getD 13 (.Pass ⟨0, 0, 0, 0⟩)
def n_room_lines : List Str := ["told", "stay", "row"]
theorem sc_room_lines : FnScope n_room_lines ["told"] (defScope s_room_lines) := ⟨rfl, rfl, rfl, by decide +kernel, rfl, by decide +kernel, by decide +kernel⟩
noncomputable def b_room_lines : SemS := (sRet (fTree (fLc (iVal (fV 0)) (aNm 2) tYes (fMtT "str" dJoin (fC (.str ", ")) (fCons (fTree (fLc (iVal (fV 2)) (aNm 1) tYes (fOp2 dAdd (fOp2 dAdd (fOp2 dAdd (fOp2 dAdd (fBi dStr (fCons (fIx (fV 1) (fC (.int 0))) fNil)) (fC (.str "-"))) (fBi dStr (fCons (fIx (fV 1) (fC (.int 1))) fNil))) (fC (.str " "))) (fIx (fV 1) (fC (.int 2)))) [1])) fNil)) [2])))
noncomputable def S_room_lines : DFn := dfn 3 b_room_lines
theorem d_room_lines {P : Program} {w : World} {K : PySem.W.Frag} {mg : Str → Option Value} {base : Heap} {F : Fx} (hF : F.K = K) (M : Mod K mg F) {f : Addr} (cdv : Value) (A : Around) (outer : List PySem.Env) (s : Shared) (H : Hp) (E : XK) (hr : Room 0 (A.deeper (envOfC "room_lines" (defScope s_room_lines) s.heap.objs.size f cdv))) :
  SSs (cxOf (L2.CX P w) P w K mg base n_room_lines "room_lines" (defScope s_room_lines) f cdv A outer s H E) F (fun c d _ H' => E c d H') (defBody s_room_lines) b_room_lines := by
  have C := ctx_of (P := P) (w := w) (mg := mg) (base := base) (N := n_room_lines) (qual := "room_lines") (sc := defScope s_room_lines) (f := f) (cdv := cdv) (A := A) (outer := outer) (s := s) (H := H) (E := E) (F := F) (L := 0) hF (by decide +kernel) hr
  exact (sss_one (ss_ret (se_tree (sf_lc C.n C.c (si_val C.k (se_v 0)) (own := [("row", 2)]) (L2.blkOk_by (by kernel_rfl)) (fun _ _ _ _ _ => C.bG fun C => (sw_nm 2 C.n)) (fun _ _ _ _ _ => C.bT fun C => spt_nil) (fun _ _ _ _ _ => C.bE fun C => (se_mt C.k (by decide) PySem.F.plainAttrs_str PySem.F.slot_str_join PySem.F.type_str_join (md_join C.k) cm_join se_str (sa_cons (se_tree (sf_lc C.n C.c (si_val C.k (se_v 2)) (own := [("stay", 1)]) (L2.blkOk_by (by kernel_rfl)) (fun _ _ _ _ _ => C.bG fun C => (sw_nm 1 C.n)) (fun _ _ _ _ _ => C.bT fun C => spt_nil) (fun _ _ _ _ _ => C.bE fun C => (se_op2 cm_add (od_add C.k) (se_op2 cm_add (od_add C.k) (se_op2 cm_add (od_add C.k) (se_op2 cm_add (od_add C.k) (se_bty cd_str cm_str M.g_str (sa_cons (se_ix C.k C.u (se_v 1) se_int) sa_nil)) se_str) (se_bty cd_str cm_str M.g_str (sa_cons (se_ix C.k C.u (se_v 1) se_int) sa_nil))) se_str) (se_ix C.k C.u (se_v 1) se_int))))) sa_nil)))))))
def s__law_cell : Stmt := bd.getD 15 (.Pass ⟨0, 0, 0, 0⟩)
def n__law_cell : List Str := ["script", "k"]
theorem sc__law_cell : FnScope n__law_cell ["script", "k"] (defScope s__law_cell) := ⟨rfl, rfl, rfl, by decide +kernel, rfl, by decide +kernel, by decide +kernel⟩
noncomputable def b__law_cell : SemS := (sSeq (sIf (tCmp dLt (fV 1) (fBi dLen (fCons (fV 0) fNil))) (sRet (fBi dAbs (fCons (fBi dInt (fCons (fIx (fV 0) (fV 1)) fNil)) fNil))) sNext) (sRet (fOp2 dAdd (fOp2 dMul (fC (.int 37)) (fV 1)) (fC (.int 11)))))
noncomputable def S__law_cell : DFn := dfn 2 b__law_cell
theorem d__law_cell {P : Program} {w : World} {K : PySem.W.Frag} {mg : Str → Option Value} {base : Heap} {F : Fx} (hF : F.K = K) (M : Mod K mg F) {f : Addr} (cdv : Value) (A : Around) (outer : List PySem.Env) (s : Shared) (H : Hp) (E : XK) (hr : Room 0 (A.deeper (envOfC "_law_cell" (defScope s__law_cell) s.heap.objs.size f cdv))) :
  SSs (cxOf (L2.CX P w) P w K mg base n__law_cell "_law_cell" (defScope s__law_cell) f cdv A outer s H E) F (fun c d _ H' => E c d H') (defBody s__law_cell) b__law_cell := by
  have C := ctx_of (P := P) (w := w) (mg := mg) (base := base) (N := n__law_cell) (qual := "_law_cell") (sc := defScope s__law_cell) (f := f) (cdv := cdv) (A := A) (outer := outer) (s := s) (H := H) (E := E) (F := F) (L := 0) hF (by decide +kernel) hr
  exact (sss_cons (ss_if (st_cmp oc_lt (se_v 1) (se_bi (cd_len C.k) cm_len M.g_len (sa_cons (se_v 0) sa_nil))) (sss_one (ss_ret (se_bi cd_abs cm_abs M.g_abs (sa_cons (se_bty cd_int cm_int M.g_int (sa_cons (se_ix C.k C.u (se_v 0) (se_v 1)) sa_nil)) sa_nil)))) sss_nil)
  (sss_one (ss_ret (se_op2 cm_add (od_add C.k) (se_op2 cm_mul od_mul se_int (se_v 1)) se_int))))
def s__law_sleeping : Stmt := bd.getD 18 (.Pass ⟨0, 0, 0, 0⟩)
def n__law_sleeping : List Str := ["stays", "night", "stay"]
theorem sc__law_sleeping : FnScope n__law_sleeping ["stays", "night"] (defScope s__law_sleeping) := ⟨rfl, rfl, rfl, by decide +kernel, rfl, by decide +kernel, by decide +kernel⟩
noncomputable def b__law_sleeping : SemS := (sRet (fTree (fLc (iVal (fV 0)) (aNm 2) (tChain dLe dLe (fIx (fV 2) (fC (.int 0))) (fV 1) (fIx (fV 2) (fC (.int 1)))) (fV 2) [2])))
noncomputable def S__law_sleeping : DFn := dfn 3 b__law_sleeping
theorem d__law_sleeping {P : Program} {w : World} {K : PySem.W.Frag} {mg : Str → Option Value} {base : Heap} {F : Fx} (hF : F.K = K) (M : Mod K mg F) {f : Addr} (cdv : Value) (A : Around) (outer : List PySem.Env) (s : Shared) (H : Hp) (E : XK) (hr : Room 0 (A.deeper (envOfC "_law_sleeping" (defScope s__law_sleeping) s.heap.objs.size f cdv))) :
  SSs (cxOf (L2.CX P w) P w K mg base n__law_sleeping "_law_sleeping" (defScope s__law_sleeping) f cdv A outer s H E) F (fun c d _ H' => E c d H') (defBody s__law_sleeping) b__law_sleeping := by
  have C := ctx_of (P := P) (w := w) (mg := mg) (base := base) (N := n__law_sleeping) (qual := "_law_sleeping") (sc := defScope s__law_sleeping) (f := f) (cdv := cdv) (A := A) (outer := outer) (s := s) (H := H) (E := E) (F := F) (L := 0) hF (by decide +kernel) hr
  exact (sss_one (ss_ret (se_tree (sf_lc C.n C.c (si_val C.k (se_v 0)) (own := [("stay", 2)]) (L2.blkOk_by (by kernel_rfl)) (fun _ _ _ _ _ => C.bG fun C => (sw_nm 2 C.n)) (fun _ _ _ _ _ => C.bT fun C => (spt_one (st_chain oc_le oc_le (se_ix C.k C.u (se_v 2) se_int) (se_v 1) (se_ix C.k C.u (se_v 2) se_int)))) (fun _ _ _ _ _ => C.bE fun C => (se_v 2))))))
def s__law_housed : Stmt := bd.getD 19 (.Pass ⟨0, 0, 0, 0⟩)
def n__law_housed : List Str := ["stays", "told", "done", "row", "ordered", "k"]
theorem sc__law_housed : FnScope n__law_housed ["stays", "told"] (defScope s__law_housed) := ⟨rfl, rfl, rfl, by decide +kernel, rfl, by decide +kernel, by decide +kernel⟩
noncomputable def b__law_housed : SemS := (sSeq (sSet 2 (fTree (fItems fNil))) (sSeq (sFor (iVal (fV 1)) (aNm 3) (sSeq (sSet 4 (fTree (fBl dSort (fCons (fV 3) fNil)))) (sSeq (sIf (tCmp dGt (fBi dLen (fCons (fTree (fLc (iRg2 (fC (.int 1)) (fBi dLen (fCons (fV 4) fNil))) (aNm 5) (tCmp dLe (fIx (fIx (fV 4) (fV 5)) (fC (.int 0))) (fIx (fIx (fV 4) (fOp2 dSub (fV 5) (fC (.int 1)))) (fC (.int 1)))) (fV 5) [5])) fNil)) (fC (.int 0))) (sRet (fC (.bl false))) sNext) (sSet 2 (fTree (fCat (fV 2) (fV 3))))))) (sRet (fCmp dEq (fTree (fBl dSort (fCons (fV 2) fNil))) (fV 0)))))
noncomputable def S__law_housed : DFn := dfn 6 b__law_housed
theorem d__law_housed {P : Program} {w : World} {K : PySem.W.Frag} {mg : Str → Option Value} {base : Heap} {F : Fx} (hF : F.K = K) (M : Mod K mg F) {f : Addr} (cdv : Value) (A : Around) (outer : List PySem.Env) (s : Shared) (H : Hp) (E : XK) (hr : Room 0 (A.deeper (envOfC "_law_housed" (defScope s__law_housed) s.heap.objs.size f cdv))) :
  SSs (cxOf (L2.CX P w) P w K mg base n__law_housed "_law_housed" (defScope s__law_housed) f cdv A outer s H E) F (fun c d _ H' => E c d H') (defBody s__law_housed) b__law_housed := by
  have C := ctx_of (P := P) (w := w) (mg := mg) (base := base) (N := n__law_housed) (qual := "_law_housed") (sc := defScope s__law_housed) (f := f) (cdv := cdv) (A := A) (outer := outer) (s := s) (H := H) (E := E) (F := F) (L := 0) hF (by decide +kernel) hr
  exact (sss_cons (ss_set 2 C.n (se_tree (sf_lst sa_nil)))
  (sss_cons (ss_for C.p C.c (si_val C.k (se_v 1)) (sg_nm 3 C.n) (sss_cons (ss_set 4 C.n (se_tree (sf_bi (cf_sort C.k) cm_sort M.g_sorted (sa_cons (se_v 3) sa_nil))))
  (sss_cons (ss_if (st_cmp oc_gt (se_bi (cd_len C.k) cm_len M.g_len (sa_cons (se_tree (sf_lc C.n C.c (si_rg2 se_int (se_bi (cd_len C.k) cm_len M.g_len (sa_cons (se_v 4) sa_nil)) M.g_range) (own := [("k", 5)]) (L2.blkOk_by (by kernel_rfl)) (fun _ _ _ _ _ => C.bG fun C => (sw_nm 5 C.n)) (fun _ _ _ _ _ => C.bT fun C => (spt_one (st_cmp oc_le (se_ix C.k C.u (se_ix C.k C.u (se_v 4) (se_v 5)) se_int) (se_ix C.k C.u (se_ix C.k C.u (se_v 4) (se_op2 cm_sub od_sub (se_v 5) se_int)) se_int)))) (fun _ _ _ _ _ => C.bE fun C => (se_v 5)))) sa_nil)) se_int) (sss_one (ss_ret se_bl)) sss_nil)
  (sss_one (ss_set 2 C.n (se_tree (sf_cat (se_v 2) (se_v 3))))))))
  (sss_one (ss_ret (se_cmp (oc_eq C.k C.u) (se_tree (sf_bi (cf_sort C.k) cm_sort M.g_sorted (sa_cons (se_v 2) sa_nil))) (se_v 0))))))
def s__law_free : Stmt := bd.getD 21 (.Pass ⟨0, 0, 0, 0⟩)
def n__law_free : List Str := ["told", "first", "last", "k", "stay"]
theorem sc__law_free : FnScope n__law_free ["told", "first", "last"] (defScope s__law_free) := ⟨rfl, rfl, rfl, by decide +kernel, rfl, by decide +kernel, by decide +kernel⟩
noncomputable def b__law_free : SemS := (sRet (fTree (fLc (iRg1 (fBi dLen (fCons (fV 0) fNil))) (aNm 3) (tCmp dEq (fBi dLen (fCons (fTree (fLc (iVal (fIx (fV 0) (fV 3))) (aNm 4) (tAnd (tCmp dLe (fIx (fV 4) (fC (.int 0))) (fV 2)) (tCmp dLe (fV 1) (fIx (fV 4) (fC (.int 1))))) (fV 4) [4])) fNil)) (fC (.int 0))) (fV 3) [3])))
noncomputable def S__law_free : DFn := dfn 5 b__law_free
theorem d__law_free {P : Program} {w : World} {K : PySem.W.Frag} {mg : Str → Option Value} {base : Heap} {F : Fx} (hF : F.K = K) (M : Mod K mg F) {f : Addr} (cdv : Value) (A : Around) (outer : List PySem.Env) (s : Shared) (H : Hp) (E : XK) (hr : Room 0 (A.deeper (envOfC "_law_free" (defScope s__law_free) s.heap.objs.size f cdv))) :
  SSs (cxOf (L2.CX P w) P w K mg base n__law_free "_law_free" (defScope s__law_free) f cdv A outer s H E) F (fun c d _ H' => E c d H') (defBody s__law_free) b__law_free := by
  have C := ctx_of (P := P) (w := w) (mg := mg) (base := base) (N := n__law_free) (qual := "_law_free") (sc := defScope s__law_free) (f := f) (cdv := cdv) (A := A) (outer := outer) (s := s) (H := H) (E := E) (F := F) (L := 0) hF (by decide +kernel) hr
  exact (sss_one (ss_ret (se_tree (sf_lc C.n C.c (si_rg1 (se_bi (cd_len C.k) cm_len M.g_len (sa_cons (se_v 0) sa_nil)) M.g_range) (own := [("k", 3)]) (L2.blkOk_by (by kernel_rfl)) (fun _ _ _ _ _ => C.bG fun C => (sw_nm 3 C.n)) (fun _ _ _ _ _ => C.bT fun C => (spt_one (st_cmp (oc_eq C.k C.u) (se_bi (cd_len C.k) cm_len M.g_len (sa_cons (se_tree (sf_lc C.n C.c (si_val C.k (se_ix C.k C.u (se_v 0) (se_v 3))) (own := [("stay", 4)]) (L2.blkOk_by (by kernel_rfl)) (fun _ _ _ _ _ => C.bG fun C => (sw_nm 4 C.n)) (fun _ _ _ _ _ => C.bT fun C => (spt_one ((sw_and (st_cmp oc_le (se_ix C.k C.u (se_v 4) se_int) (se_v 2)) (sw_and1 (st_cmp oc_le (se_v 1) (se_ix C.k C.u (se_v 4) se_int))))).st)) (fun _ _ _ _ _ => C.bE fun C => (se_v 4)))) sa_nil)) se_int))) (fun _ _ _ _ _ => C.bE fun C => (se_v 3))))))
def s__law_exchanged : Stmt := bd.getD 22 (.Pass ⟨0, 0, 0, 0⟩)
def n__law_exchanged : List Str := ["told", "one", "other", "night", "stay", "found", "row"]
theorem sc__law_exchanged : FnScope n__law_exchanged ["told", "one", "other", "night"] (defScope s__law_exchanged) := ⟨rfl, rfl, rfl, by decide +kernel, rfl, by decide +kernel, by decide +kernel⟩
noncomputable def b__law_exchanged : SemS := (sSeq (sIf (tCmp dGe (fBi dMax2 (fCons (fV 1) (fCons (fV 2) fNil))) (fBi dLen (fCons (fV 0) fNil))) (sRet (fC .non)) sNext) (sSeq (sIf (tCmp dGt (fBi dLen (fCons (fTree (fLc (iVal (fTree (fCat (fIx (fV 0) (fV 1)) (fIx (fV 0) (fV 2))))) (aNm 4) (tChain dLt dLe (fIx (fV 4) (fC (.int 0))) (fV 3) (fIx (fV 4) (fC (.int 1)))) (fV 4) [4])) fNil)) (fC (.int 0))) (sRet (fC .non)) sNext) (sSeq (sSet 5 (fBox (fLc (iVal (fV 0)) (aNm 6) tYes (fTree (fBl dList (fCons (fV 6) fNil))) [6]))) (sSeq (sIf (tCmp dNe (fV 1) (fV 2)) (sSeq (sSetI (fV 5) (fV 1) (fTree (fCat (fTree (fLc (iVal (fIx (fV 0) (fV 1))) (aNm 4) (tCmp dLt (fIx (fV 4) (fC (.int 0))) (fV 3)) (fV 4) [4])) (fTree (fLc (iVal (fIx (fV 0) (fV 2))) (aNm 4) (tCmp dGe (fIx (fV 4) (fC (.int 0))) (fV 3)) (fV 4) [4]))))) (sSetI (fV 5) (fV 2) (fTree (fCat (fTree (fLc (iVal (fIx (fV 0) (fV 2))) (aNm 4) (tCmp dLt (fIx (fV 4) (fC (.int 0))) (fV 3)) (fV 4) [4])) (fTree (fLc (iVal (fIx (fV 0) (fV 1))) (aNm 4) (tCmp dGe (fIx (fV 4) (fC (.int 0))) (fV 3)) (fV 4) [4])))))) sNext) (sRet (fFz 5))))))
noncomputable def S__law_exchanged : DFn := dfn 7 b__law_exchanged
theorem d__law_exchanged {P : Program} {w : World} {K : PySem.W.Frag} {mg : Str → Option Value} {base : Heap} {F : Fx} (hF : F.K = K) (M : Mod K mg F) {f : Addr} (cdv : Value) (A : Around) (outer : List PySem.Env) (s : Shared) (H : Hp) (E : XK) (hr : Room 0 (A.deeper (envOfC "_law_exchanged" (defScope s__law_exchanged) s.heap.objs.size f cdv))) :
  SSs (cxOf (L2.CX P w) P w K mg base n__law_exchanged "_law_exchanged" (defScope s__law_exchanged) f cdv A outer s H E) F (fun c d _ H' => E c d H') (defBody s__law_exchanged) b__law_exchanged := by
  have C := ctx_of (P := P) (w := w) (mg := mg) (base := base) (N := n__law_exchanged) (qual := "_law_exchanged") (sc := defScope s__law_exchanged) (f := f) (cdv := cdv) (A := A) (outer := outer) (s := s) (H := H) (E := E) (F := F) (L := 0) hF (by decide +kernel) hr
  exact (sss_cons (ss_if (st_cmp oc_ge (se_bi (cd_max2 C.c) cm_max2 M.g_max (sa_cons (se_v 1) (sa_cons (se_v 2) sa_nil))) (se_bi (cd_len C.k) cm_len M.g_len (sa_cons (se_v 0) sa_nil))) (sss_one (ss_ret se_non)) sss_nil)
  (sss_cons (ss_if (st_cmp oc_gt (se_bi (cd_len C.k) cm_len M.g_len (sa_cons (se_tree (sf_lc C.n C.c (si_val C.k (se_tree (sf_cat (se_ix C.k C.u (se_v 0) (se_v 1)) (se_ix C.k C.u (se_v 0) (se_v 2))))) (own := [("stay", 4)]) (L2.blkOk_by (by kernel_rfl)) (fun _ _ _ _ _ => C.bG fun C => (sw_nm 4 C.n)) (fun _ _ _ _ _ => C.bT fun C => (spt_one (st_chain oc_lt oc_le (se_ix C.k C.u (se_v 4) se_int) (se_v 3) (se_ix C.k C.u (se_v 4) se_int)))) (fun _ _ _ _ _ => C.bE fun C => (se_v 4)))) sa_nil)) se_int) (sss_one (ss_ret se_non)) sss_nil)
  (sss_cons (ss_setLc 5 true C.n C.c (si_val C.k (se_v 0)) (own := [("row", 6)]) (L2.blkOk_by (by kernel_rfl)) (fun _ _ _ _ _ => C.bG fun C => (sw_nm 6 C.n)) (fun _ _ _ _ _ => C.bT fun C => spt_nil) (fun _ _ _ _ _ => C.bE fun C => (se_tree (sf_bty (cf_list C.k) cm_list M.g_list (sa_cons (se_v 6) sa_nil)))))
  (sss_cons (ss_if (st_cmp (oc_ne C.k C.u) (se_v 1) (se_v 2)) (sss_cons (ss_setI C.u (se_v 5) (se_v 1) (se_tree (sf_cat (se_tree (sf_lc C.n C.c (si_val C.k (se_ix C.k C.u (se_v 0) (se_v 1))) (own := [("stay", 4)]) (L2.blkOk_by (by kernel_rfl)) (fun _ _ _ _ _ => C.bG fun C => (sw_nm 4 C.n)) (fun _ _ _ _ _ => C.bT fun C => (spt_one (st_cmp oc_lt (se_ix C.k C.u (se_v 4) se_int) (se_v 3)))) (fun _ _ _ _ _ => C.bE fun C => (se_v 4)))) (se_tree (sf_lc C.n C.c (si_val C.k (se_ix C.k C.u (se_v 0) (se_v 2))) (own := [("stay", 4)]) (L2.blkOk_by (by kernel_rfl)) (fun _ _ _ _ _ => C.bG fun C => (sw_nm 4 C.n)) (fun _ _ _ _ _ => C.bT fun C => (spt_one (st_cmp oc_ge (se_ix C.k C.u (se_v 4) se_int) (se_v 3)))) (fun _ _ _ _ _ => C.bE fun C => (se_v 4)))))))
  (sss_one (ss_setI C.u (se_v 5) (se_v 2) (se_tree (sf_cat (se_tree (sf_lc C.n C.c (si_val C.k (se_ix C.k C.u (se_v 0) (se_v 2))) (own := [("stay", 4)]) (L2.blkOk_by (by kernel_rfl)) (fun _ _ _ _ _ => C.bG fun C => (sw_nm 4 C.n)) (fun _ _ _ _ _ => C.bT fun C => (spt_one (st_cmp oc_lt (se_ix C.k C.u (se_v 4) se_int) (se_v 3)))) (fun _ _ _ _ _ => C.bE fun C => (se_v 4)))) (se_tree (sf_lc C.n C.c (si_val C.k (se_ix C.k C.u (se_v 0) (se_v 1))) (own := [("stay", 4)]) (L2.blkOk_by (by kernel_rfl)) (fun _ _ _ _ _ => C.bG fun C => (sw_nm 4 C.n)) (fun _ _ _ _ _ => C.bT fun C => (spt_one (st_cmp oc_ge (se_ix C.k C.u (se_v 4) se_int) (se_v 3)))) (fun _ _ _ _ _ => C.bE fun C => (se_v 4))))))))) sss_nil)
  (sss_one (ss_ret (se_fz 5)))))))
def s_put_in : Stmt := bd.getD 7 (.Pass ⟨0, 0, 0, 0⟩)
def n_put_in : List Str := ["told", "place", "stay", "found", "row"]
theorem sc_put_in : FnScope n_put_in ["told", "place", "stay"] (defScope s_put_in) := ⟨rfl, rfl, rfl, by decide +kernel, rfl, by decide +kernel, by decide +kernel⟩
noncomputable def b_put_in : SemS := (sSeq (sIf (tOr (fTru (fIsI .bl (fV 1))) (tNot (tChain dLe dLt (fC (.int 0)) (fV 1) (fBi dLen (fCons (fV 0) fNil))))) (sRaise "InvalidPaper" (fCons (fC (.str "no room")) fNil)) sNext) (sSeq (sIf (tCmp dNotIn (fV 1) (fCall S_free_rooms 3 [] (fCons (fV 0) (fCons (fIx (fV 2) (fC (.int 0))) (fCons (fIx (fV 2) (fC (.int 1))) fNil))))) (sRaise "InvalidPaper" (fCons (fC (.str "taken")) fNil)) sNext) (sSeq (sSet 3 (fBox (fLc (iVal (fV 0)) (aNm 4) tYes (fTree (fBl dList (fCons (fV 4) fNil))) [4]))) (sSeq (sSetI (fV 3) (fV 1) (fTree (fBl dSort (fCons (fTree (fCat (fIx (fV 3) (fV 1)) (fTree (fItems (fCons (fV 2) fNil))))) fNil)))) (sRet (fFz 3))))))
noncomputable def S_put_in : DFn := dfn 5 b_put_in
theorem d_put_in {P : Program} {w : World} {K : PySem.W.Frag} {mg : Str → Option Value} {base : Heap} {F : Fx} (hF : F.K = K) (M : Mod K mg F) (c_free_rooms : Cal P w K mg base F 1 "free_rooms" 3 [] S_free_rooms) {f : Addr} (cdv : Value) (A : Around) (outer : List PySem.Env) (s : Shared) (H : Hp) (E : XK) (hr : Room 1 (A.deeper (envOfC "put_in" (defScope s_put_in) s.heap.objs.size f cdv))) :
  SSs (cxOf (L2.CX P w) P w K mg base n_put_in "put_in" (defScope s_put_in) f cdv A outer s H E) F (fun c d _ H' => E c d H') (defBody s_put_in) b_put_in := by
  have C := ctx_of (P := P) (w := w) (mg := mg) (base := base) (N := n_put_in) (qual := "put_in") (sc := defScope s_put_in) (f := f) (cdv := cdv) (A := A) (outer := outer) (s := s) (H := H) (E := E) (F := F) (L := 1) hF (by decide +kernel) hr
  exact (sss_cons (ss_if ((sw_or (st_tru C.k (se_isi .bl C.k M.g_isinstance M.g_bool (se_v 1))) (sw_or1 (st_not (st_chain oc_le oc_lt se_int (se_v 1) (se_bi (cd_len C.k) cm_len M.g_len (sa_cons (se_v 0) sa_nil))))))).st (sss_one (ss_raise M.x_InvalidPaper C.c C.t (sa_cons se_str sa_nil))) sss_nil)
  (sss_cons (ss_if (st_cmp (oc_notIn C.k C.u) (se_v 1) (se_call c_free_rooms (C.r.mono (by decide)) C.t (sa_cons (se_v 0) (sa_cons (se_ix C.k C.u (se_v 2) se_int) (sa_cons (se_ix C.k C.u (se_v 2) se_int) sa_nil))))) (sss_one (ss_raise M.x_InvalidPaper C.c C.t (sa_cons se_str sa_nil))) sss_nil)
  (sss_cons (ss_setLc 3 true C.n C.c (si_val C.k (se_v 0)) (own := [("row", 4)]) (L2.blkOk_by (by kernel_rfl)) (fun _ _ _ _ _ => C.bG fun C => (sw_nm 4 C.n)) (fun _ _ _ _ _ => C.bT fun C => spt_nil) (fun _ _ _ _ _ => C.bE fun C => (se_tree (sf_bty (cf_list C.k) cm_list M.g_list (sa_cons (se_v 4) sa_nil)))))
  (sss_cons (ss_setI C.u (se_v 3) (se_v 1) (se_tree (sf_bi (cf_sort C.k) cm_sort M.g_sorted (sa_cons (se_tree (sf_cat (se_ix C.k C.u (se_v 3) (se_v 1)) (se_tree (sf_lst (sa_cons (se_v 2) sa_nil))))) sa_nil))))
  (sss_one (ss_ret (se_fz 3)))))))
def s_most_room : Stmt := bd.getD 9 (.Pass ⟨0, 0, 0, 0⟩)
def n_most_room : List Str := ["told", "counts"]
theorem sc_most_room : FnScope n_most_room ["told"] (defScope s_most_room) := ⟨rfl, rfl, rfl, by decide +kernel, rfl, by decide +kernel, by decide +kernel⟩
noncomputable def b_most_room : SemS := (sSeq (sSet 1 (fCall S_nights_taken 1 [] (fCons (fV 0) fNil))) (sRet (fIf (fTru (fV 1)) (fTup (fCons (fMtT "list" dIndex (fV 1) (fCons (fBi dMax1 (fCons (fV 1) fNil)) fNil)) (fCons (fBi dMax1 (fCons (fV 1) fNil)) fNil))) (fC .non))))
noncomputable def S_most_room : DFn := dfn 2 b_most_room
theorem d_most_room {P : Program} {w : World} {K : PySem.W.Frag} {mg : Str → Option Value} {base : Heap} {F : Fx} (hF : F.K = K) (M : Mod K mg F) (c_nights_taken : Cal P w K mg base F 1 "nights_taken" 1 [] S_nights_taken) {f : Addr} (cdv : Value) (A : Around) (outer : List PySem.Env) (s : Shared) (H : Hp) (E : XK) (hr : Room 1 (A.deeper (envOfC "most_room" (defScope s_most_room) s.heap.objs.size f cdv))) :
  SSs (cxOf (L2.CX P w) P w K mg base n_most_room "most_room" (defScope s_most_room) f cdv A outer s H E) F (fun c d _ H' => E c d H') (defBody s_most_room) b_most_room := by
  have C := ctx_of (P := P) (w := w) (mg := mg) (base := base) (N := n_most_room) (qual := "most_room") (sc := defScope s_most_room) (f := f) (cdv := cdv) (A := A) (outer := outer) (s := s) (H := H) (E := E) (F := F) (L := 1) hF (by decide +kernel) hr
  exact (sss_cons (ss_set 1 C.n (se_call c_nights_taken (C.r.mono (by decide)) C.t (sa_cons (se_v 0) sa_nil)))
  (sss_one (ss_ret (se_ifExp (st_tru C.k (se_v 1)) (se_tup (sa_cons (se_mt C.k (by decide) PySem.F.plainAttrs_list PySem.F.slot_list_index PySem.F.type_list_index (md_index C.k) cm_index (se_v 1) (sa_cons (se_bi (cd_max1 C.k C.c) cm_max1 M.g_max (sa_cons (se_v 1) sa_nil)) sa_nil)) (sa_cons (se_bi (cd_max1 C.k C.c) cm_max1 M.g_max (sa_cons (se_v 1) sa_nil)) sa_nil))) se_non))))
def s__law_take : Stmt := bd.getD 16 (.Pass ⟨0, 0, 0, 0⟩)
def n__law_take : List Str := ["state", "limit", "found", "cell"]
theorem sc__law_take : FnScope n__law_take ["state", "limit"] (defScope s__law_take) := ⟨rfl, rfl, rfl, by decide +kernel, rfl, by decide +kernel, by decide +kernel⟩
noncomputable def b__law_take : SemS := (sSeq (sIf (tCmp dGt (fIx (fV 0) (fC (.int 2))) (fC (.int 0))) (sSeq (sSet 2 (fOp2 dMod (fBi dInt (fCons (fIx (fV 0) (fC (.int 2))) fNil)) (fV 1))) (sSeq (sSetI (fV 0) (fC (.int 2)) (fOp2 dDiv (fBi dInt (fCons (fIx (fV 0) (fC (.int 2))) fNil)) (fV 1))) (sRet (fV 2)))) sNext) (sSeq (sSet 3 (fCall S__law_cell 2 [] (fCons (fIx (fV 0) (fC (.int 0))) (fCons (fIx (fV 0) (fC (.int 1))) fNil)))) (sSeq (sSetI (fV 0) (fC (.int 1)) (fOp2 dAdd (fIx (fV 0) (fC (.int 1))) (fC (.int 1)))) (sSeq (sIf (tCmp dGe (fV 3) (fOp2 dPow (fC (.int 10)) (fC (.int 9)))) (sSetI (fV 0) (fC (.int 2)) (fOp2 dDiv (fBi dInt (fCons (fV 3) fNil)) (fV 1))) sNext) (sRet (fOp2 dMod (fBi dInt (fCons (fV 3) fNil)) (fV 1)))))))
noncomputable def S__law_take : DFn := dfn 4 b__law_take
theorem d__law_take {P : Program} {w : World} {K : PySem.W.Frag} {mg : Str → Option Value} {base : Heap} {F : Fx} (hF : F.K = K) (M : Mod K mg F) (c__law_cell : Cal P w K mg base F 1 "_law_cell" 2 [] S__law_cell) {f : Addr} (cdv : Value) (A : Around) (outer : List PySem.Env) (s : Shared) (H : Hp) (E : XK) (hr : Room 1 (A.deeper (envOfC "_law_take" (defScope s__law_take) s.heap.objs.size f cdv))) :
  SSs (cxOf (L2.CX P w) P w K mg base n__law_take "_law_take" (defScope s__law_take) f cdv A outer s H E) F (fun c d _ H' => E c d H') (defBody s__law_take) b__law_take := by
  have C := ctx_of (P := P) (w := w) (mg := mg) (base := base) (N := n__law_take) (qual := "_law_take") (sc := defScope s__law_take) (f := f) (cdv := cdv) (A := A) (outer := outer) (s := s) (H := H) (E := E) (F := F) (L := 1) hF (by decide +kernel) hr
  exact (sss_cons (ss_if (st_cmp oc_gt (se_ix C.k C.u (se_v 0) se_int) se_int) (sss_cons (ss_set 2 C.n (se_op2 cm_mod od_mod (se_bty cd_int cm_int M.g_int (sa_cons (se_ix C.k C.u (se_v 0) se_int) sa_nil)) (se_v 1)))
  (sss_cons (ss_setI C.u (se_v 0) se_int (se_op2 cm_div od_div (se_bty cd_int cm_int M.g_int (sa_cons (se_ix C.k C.u (se_v 0) se_int) sa_nil)) (se_v 1)))
  (sss_one (ss_ret (se_v 2))))) sss_nil)
  (sss_cons (ss_set 3 C.n (se_call c__law_cell (C.r.mono (by decide)) C.t (sa_cons (se_ix C.k C.u (se_v 0) se_int) (sa_cons (se_ix C.k C.u (se_v 0) se_int) sa_nil))))
  (sss_cons (ss_setI C.u (se_v 0) se_int (se_op2 cm_add (od_add C.k) (se_ix C.k C.u (se_v 0) se_int) se_int))
  (sss_cons (ss_if (st_cmp oc_ge (se_v 3) (se_op2 cm_pow od_pow se_int se_int)) (sss_one (ss_setI C.u (se_v 0) se_int (se_op2 cm_div od_div (se_bty cd_int cm_int M.g_int (sa_cons (se_v 3) sa_nil)) (se_v 1)))) sss_nil)
  (sss_one (ss_ret (se_op2 cm_mod od_mod (se_bty cd_int cm_int M.g_int (sa_cons (se_v 3) sa_nil)) (se_v 1))))))))
def s__law_stays : Stmt := bd.getD 17 (.Pass ⟨0, 0, 0, 0⟩)
def n__law_stays : List Str := ["state", "found", "name", "first", "last", "k"]
theorem sc__law_stays : FnScope n__law_stays ["state"] (defScope s__law_stays) := ⟨rfl, rfl, rfl, by decide +kernel, rfl, by decide +kernel, by decide +kernel⟩
noncomputable def b__law_stays : SemS := (sSeq (sSet 1 (fTree (fItems fNil))) (sSeq (sFor (iVal (fTree (fItems (fCons (fC (.str "ac")) (fCons (fC (.str "aa")) (fCons (fC (.str "ad")) (fCons (fC (.str "ab")) fNil))))))) (aNm 2) (sSeq (sSet 3 (fCall S__law_take 2 [] (fCons (fV 0) (fCons (fC (.int 10)) fNil)))) (sSeq (sSet 4 (fOp2 dAdd (fV 3) (fCall S__law_take 2 [] (fCons (fV 0) (fCons (fC (.int 5)) fNil))))) (sSet 1 (fTree (fCat (fV 1) (fTree (fLc (iRg1 (fCall S__law_take 2 [] (fCons (fV 0) (fCons (fC (.int 3)) fNil)))) (aNm 5) tYes (fTup (fCons (fV 3) (fCons (fV 4) (fCons (fV 2) (fCons (fOp2 dAdd (fV 5) (fC (.int 1))) fNil))))) [5])))))))) (sRet (fTree (fBl dSort (fCons (fV 1) fNil))))))
noncomputable def S__law_stays : DFn := dfn 6 b__law_stays
theorem d__law_stays {P : Program} {w : World} {K : PySem.W.Frag} {mg : Str → Option Value} {base : Heap} {F : Fx} (hF : F.K = K) (M : Mod K mg F) (c__law_take : Cal P w K mg base F 2 "_law_take" 2 [] S__law_take) {f : Addr} (cdv : Value) (A : Around) (outer : List PySem.Env) (s : Shared) (H : Hp) (E : XK) (hr : Room 2 (A.deeper (envOfC "_law_stays" (defScope s__law_stays) s.heap.objs.size f cdv))) :
  SSs (cxOf (L2.CX P w) P w K mg base n__law_stays "_law_stays" (defScope s__law_stays) f cdv A outer s H E) F (fun c d _ H' => E c d H') (defBody s__law_stays) b__law_stays := by
  have C := ctx_of (P := P) (w := w) (mg := mg) (base := base) (N := n__law_stays) (qual := "_law_stays") (sc := defScope s__law_stays) (f := f) (cdv := cdv) (A := A) (outer := outer) (s := s) (H := H) (E := E) (F := F) (L := 2) hF (by decide +kernel) hr
  exact (sss_cons (ss_set 1 C.n (se_tree (sf_lst sa_nil)))
  (sss_cons (ss_for C.p C.c (si_val C.k (se_tree (sf_lst (sa_cons se_str (sa_cons se_str (sa_cons se_str (sa_cons se_str sa_nil))))))) (sg_nm 2 C.n) (sss_cons (ss_set 3 C.n (se_call c__law_take (C.r.mono (by decide)) C.t (sa_cons (se_v 0) (sa_cons se_int sa_nil))))
  (sss_cons (ss_set 4 C.n (se_op2 cm_add (od_add C.k) (se_v 3) (se_call c__law_take (C.r.mono (by decide)) C.t (sa_cons (se_v 0) (sa_cons se_int sa_nil)))))
  (sss_one (ss_set 1 C.n (se_tree (sf_cat (se_v 1) (se_tree (sf_lc C.n C.c (si_rg1 (se_call c__law_take (C.r.mono (by decide)) C.t (sa_cons (se_v 0) (sa_cons se_int sa_nil))) M.g_range) (own := [("k", 5)]) (L2.blkOk_by (by kernel_rfl)) (fun _ _ _ _ _ => C.bG fun C => (sw_nm 5 C.n)) (fun _ _ _ _ _ => C.bT fun C => spt_nil) (fun _ _ _ _ _ => C.bE fun C => (se_tup (sa_cons (se_v 3) (sa_cons (se_v 4) (sa_cons (se_v 2) (sa_cons (se_op2 cm_add (od_add C.k) (se_v 5) se_int) sa_nil)))))))))))))))
  (sss_one (ss_ret (se_tree (sf_bi (cf_sort C.k) cm_sort M.g_sorted (sa_cons (se_v 1) sa_nil)))))))
def s__law_told : Stmt := bd.getD 20 (.Pass ⟨0, 0, 0, 0⟩)
def n__law_told : List Str := ["pick", "told", "one", "other", "value"]
theorem sc__law_told : FnScope n__law_told ["pick", "told", "one", "other", "value"] (defScope s__law_told) := ⟨rfl, rfl, rfl, by decide +kernel, rfl, by decide +kernel, by decide +kernel⟩
noncomputable def b__law_told : SemS := (sTryOnly cat_InvalidPaper (sRet (fIf (tCmp dEq (fV 0) (fC (.int 0))) (fCall S_put_in 3 [] (fCons (fV 1) (fCons (fV 2) (fCons (fV 4) fNil)))) (fCall S_exchange 4 [] (fCons (fV 1) (fCons (fV 2) (fCons (fV 3) (fCons (fV 4) fNil))))))) (sRet (fC .non)))
noncomputable def S__law_told : DFn := dfn 5 b__law_told
theorem d__law_told {P : Program} {w : World} {K : PySem.W.Frag} {mg : Str → Option Value} {base : Heap} {F : Fx} (hF : F.K = K) (M : Mod K mg F) (c_put_in : Cal P w K mg base F 2 "put_in" 3 [] S_put_in) (c_exchange : Cal P w K mg base F 1 "exchange" 4 [] S_exchange) {f : Addr} (cdv : Value) (A : Around) (outer : List PySem.Env) (s : Shared) (H : Hp) (E : XK) (hr : Room 2 (A.deeper (envOfC "_law_told" (defScope s__law_told) s.heap.objs.size f cdv))) :
  SSs (cxOf (L2.CX P w) P w K mg base n__law_told "_law_told" (defScope s__law_told) f cdv A outer s H E) F (fun c d _ H' => E c d H') (defBody s__law_told) b__law_told := by
  have C := ctx_of (P := P) (w := w) (mg := mg) (base := base) (N := n__law_told) (qual := "_law_told") (sc := defScope s__law_told) (f := f) (cdv := cdv) (A := A) (outer := outer) (s := s) (H := H) (E := E) (F := F) (L := 2) hF (by decide +kernel) hr
  exact (sss_one (ss_tryOnly C.s C.f M.t_InvalidPaper C.t (fun W1 pn xe tk ps => have C := C.tr tk ps; (sss_one (ss_ret (se_ifExp (st_cmp (oc_eq C.k C.u) (se_v 0) se_int) (se_call c_put_in (C.r.mono (by decide)) C.t (sa_cons (se_v 1) (sa_cons (se_v 2) (sa_cons (se_v 4) sa_nil)))) (se_call c_exchange (C.r.mono (by decide)) C.t (sa_cons (se_v 1) (sa_cons (se_v 2) (sa_cons (se_v 3) (sa_cons (se_v 4) sa_nil))))))))) (fun a oe pn hv => (sss_one (ss_ret se_non)))))
def s_law : Stmt := bd.getD 23 (.Pass ⟨0, 0, 0, 0⟩)
def n_law : List Str := ["script", "state", "stays", "told", "counts", "stay", "row", "name", "k", "night", "come", "leave", "first", "last", "fresh", "one", "other", "due", "j", "at", "moved"]
theorem sc_law : FnScope n_law ["script"] (defScope s_law) := ⟨rfl, rfl, rfl, by decide +kernel, rfl, by decide +kernel, by decide +kernel⟩
noncomputable def b_law : SemS := (sSeq (sSet 1 (fBox (fItems (fCons (fV 0) (fCons (fC (.int 0)) (fCons (fC (.int 0)) fNil)))))) (sSeq (sSet 2 (fCall S__law_stays 1 [] (fCons (fV 1) fNil))) (sSeq (sSet 3 (fCall S_rooms 1 [] (fCons (fTree (fBl dList (fCons (fV 2) fNil))) fNil))) (sSeq (sSet 4 (fTree (fLc (iVal (fV 3)) (aNm 6) tYes (fBi dSum (fCons (fTree (fLc (iVal (fV 6)) (aNm 5) tYes (fOp2 dAdd (fOp2 dSub (fIx (fV 5) (fC (.int 1))) (fIx (fV 5) (fC (.int 0)))) (fC (.int 1))) [5])) fNil)) [6]))) (sSeq (sIf (tOr (tCmp dNe (fCall S_nights_taken 1 [] (fCons (fV 3) fNil)) (fV 4)) (tCmp dNe (fCall S_most_room 1 [] (fCons (fV 3) fNil)) (fIf (tCmp dNe (fV 4) (fTree (fItems fNil))) (fTup (fCons (fMtT "list" dIndex (fV 4) (fCons (fBi dMax1 (fCons (fV 4) fNil)) fNil)) (fCons (fBi dMax1 (fCons (fV 4) fNil)) fNil))) (fC .non)))) (sRet (fC (.bl false))) sNext) (sSeq (sIf (tCmp dNe (fCall S_room_lines 1 [] (fCons (fV 3) fNil)) (fTree (fLc (iVal (fV 3)) (aNm 6) tYes (fMtT "str" dJoin (fC (.str ", ")) (fCons (fTree (fLc (iVal (fV 6)) (aNm 5) tYes (fOp2 dAdd (fOp2 dAdd (fOp2 dAdd (fOp2 dAdd (fBi dStr (fCons (fIx (fV 5) (fC (.int 0))) fNil)) (fC (.str "-"))) (fBi dStr (fCons (fIx (fV 5) (fC (.int 1))) fNil))) (fC (.str " "))) (fIx (fV 5) (fC (.int 2)))) [5])) fNil)) [6]))) (sRet (fC (.bl false))) sNext) (sSeq (sFor (iVal (fTree (fItems (fCons (fC (.str "aa")) (fCons (fC (.str "ab")) (fCons (fC (.str "zz")) fNil)))))) (aNm 7) (sIf (tCmp dNe (fCall S_together 2 [] (fCons (fV 3) (fCons (fV 7) fNil))) (fTree (fLc (iRg1 (fBi dLen (fCons (fV 3) fNil))) (aNm 8) (tCmp dIn (fV 7) (fTree (fLc (iVal (fIx (fV 3) (fV 8))) (aNm 5) tYes (fIx (fV 5) (fC (.int 2))) [5]))) (fV 8) [8]))) (sRet (fC (.bl false))) sNext)) (sSeq (sSet 9 (fCall S__law_take 2 [] (fCons (fV 1) (fCons (fC (.int 15)) fNil)))) (sSeq (sSet 10 (fTree (fItems fNil))) (sSeq (sSet 11 (fTree (fItems fNil))) (sSeq (sFor (iRg1 (fBi dLen (fCons (fV 3) fNil))) (aNm 8) (sSeq (sSet 10 (fTree (fCat (fV 10) (fTree (fLc (iVal (fIx (fV 3) (fV 8))) (aNm 5) (tCmp dEq (fIx (fV 5) (fC (.int 0))) (fV 9)) (fTup (fCons (fV 8) (fCons (fV 5) fNil))) [5]))))) (sSet 11 (fTree (fCat (fV 11) (fTree (fLc (iVal (fIx (fV 3) (fV 8))) (aNm 5) (tCmp dEq (fIx (fV 5) (fC (.int 1))) (fOp2 dSub (fV 9) (fC (.int 1)))) (fTup (fCons (fV 8) (fCons (fV 5) fNil))) [5]))))))) (sSeq (sIf (tCmp dNe (fCall S_changes 2 [] (fCons (fV 3) (fCons (fV 9) fNil))) (fTup (fCons (fV 10) (fCons (fV 11) fNil)))) (sRet (fC (.bl false))) sNext) (sSeq (sFor (iRg1 (fC (.int 4))) (aNm 8) (sSeq (sSet 12 (fCall S__law_take 2 [] (fCons (fV 1) (fCons (fC (.int 14)) fNil)))) (sSeq (sSet 13 (fOp2 dAdd (fV 12) (fCall S__law_take 2 [] (fCons (fV 1) (fCons (fC (.int 4)) fNil))))) (sSeq (sSet 14 (fTup (fCons (fV 12) (fCons (fV 13) (fCons (fC (.str "zz")) (fCons (fOp2 dAdd (fV 8) (fC (.int 1))) fNil)))))) (sSeq (sSet 15 (fCall S__law_take 2 [] (fCons (fV 1) (fCons (fOp2 dAdd (fBi dLen (fCons (fV 3) fNil)) (fC (.int 1))) fNil)))) (sSeq (sSet 16 (fCall S__law_take 2 [] (fCons (fV 1) (fCons (fOp2 dAdd (fBi dLen (fCons (fV 3) fNil)) (fC (.int 1))) fNil)))) (sSeq (sIf (tCmp dNe (fCall S_free_rooms 3 [] (fCons (fV 3) (fCons (fV 12) (fCons (fV 13) fNil)))) (fCall S__law_free 3 [] (fCons (fV 3) (fCons (fV 12) (fCons (fV 13) fNil))))) (sRet (fC (.bl false))) sNext) (sSeq (sSet 17 (fC .non)) (sSeq (sIf (tCmp dIn (fV 15) (fCall S__law_free 3 [] (fCons (fV 3) (fCons (fV 12) (fCons (fV 13) fNil))))) (sSet 17 (fTree (fLc (iRg1 (fBi dLen (fCons (fV 3) fNil))) (aNm 18) tYes (fIf (tCmp dEq (fV 18) (fV 15)) (fTree (fBl dSort (fCons (fTree (fCat (fIx (fV 3) (fV 18)) (fTree (fItems (fCons (fV 14) fNil))))) fNil))) (fIx (fV 3) (fV 18))) [18]))) sNext) (sSeq (sIf (tOr (tCmp dNe (fCall S__law_told 5 [] (fCons (fC (.int 0)) (fCons (fTree (fLc (iVal (fV 3)) (aNm 6) tYes (fTree (fBl dList (fCons (fV 6) fNil))) [6])) (fCons (fV 15) (fCons (fC (.int 0)) (fCons (fV 14) fNil)))))) (fV 17)) (tAnd (tCmp dIsNot (fV 17) (fC .non)) (tNot (fTru (fCall S_is_housed 2 [] (fCons (fTree (fCat (fV 2) (fTree (fItems (fCons (fV 14) fNil))))) (fCons (fV 17) fNil))))))) (sRet (fC (.bl false))) sNext) (sSeq (sSet 19 (fCall S__law_take 2 [] (fCons (fV 1) (fCons (fC (.int 15)) fNil)))) (sSeq (sSet 20 (fCall S__law_exchanged 4 [] (fCons (fV 3) (fCons (fV 15) (fCons (fV 16) (fCons (fV 19) fNil)))))) (sIf (tOr (tCmp dNe (fCall S__law_told 5 [] (fCons (fC (.int 1)) (fCons (fTree (fLc (iVal (fV 3)) (aNm 6) tYes (fTree (fBl dList (fCons (fV 6) fNil))) [6])) (fCons (fV 15) (fCons (fV 16) (fCons (fV 19) fNil)))))) (fV 20)) (tAnd (tCmp dIsNot (fV 20) (fC .non)) (tNot (fTru (fCall S_is_housed 2 [] (fCons (fTree (fBl dList (fCons (fV 2) fNil))) (fCons (fV 20) fNil))))))) (sRet (fC (.bl false))) sNext))))))))))))) (sRet (fOr (fCmp dEq (fV 3) (fTree (fItems fNil))) (fAnd (fCmp dIs (fCall S__law_told 5 [] (fCons (fC (.int 0)) (fCons (fV 3) (fCons (fC (.bl true)) (fCons (fC (.int 0)) (fCons (fTup (fCons (fC (.int 90)) (fCons (fC (.int 91)) (fCons (fC (.str "zz")) (fCons (fC (.int 1)) fNil))))) fNil)))))) (fC .non)) (fCmp dIs (fCall S__law_told 5 [] (fCons (fC (.int 1)) (fCons (fV 3) (fCons (fOp2 dSub (fC (.int 0)) (fC (.int 1))) (fCons (fC (.int 0)) (fCons (fC (.int 5)) fNil)))))) (fC .non))))))))))))))))))
noncomputable def S_law : DFn := dfn 21 b_law
theorem d_law {P : Program} {w : World} {K : PySem.W.Frag} {mg : Str → Option Value} {base : Heap} {F : Fx} (hF : F.K = K) (M : Mod K mg F) (c__law_stays : Cal P w K mg base F 3 "_law_stays" 1 [] S__law_stays) (c_rooms : Cal P w K mg base F 1 "rooms" 1 [] S_rooms) (c_nights_taken : Cal P w K mg base F 1 "nights_taken" 1 [] S_nights_taken) (c_most_room : Cal P w K mg base F 2 "most_room" 1 [] S_most_room) (c_room_lines : Cal P w K mg base F 1 "room_lines" 1 [] S_room_lines) (c_together : Cal P w K mg base F 1 "together" 2 [] S_together) (c__law_take : Cal P w K mg base F 2 "_law_take" 2 [] S__law_take) (c_changes : Cal P w K mg base F 1 "changes" 2 [] S_changes) (c_free_rooms : Cal P w K mg base F 1 "free_rooms" 3 [] S_free_rooms) (c__law_free : Cal P w K mg base F 1 "_law_free" 3 [] S__law_free) (c__law_told : Cal P w K mg base F 3 "_law_told" 5 [] S__law_told) (c_is_housed : Cal P w K mg base F 1 "is_housed" 2 [] S_is_housed) (c__law_exchanged : Cal P w K mg base F 1 "_law_exchanged" 4 [] S__law_exchanged) {f : Addr} (cdv : Value) (A : Around) (outer : List PySem.Env) (s : Shared) (H : Hp) (E : XK) (hr : Room 3 (A.deeper (envOfC "law" (defScope s_law) s.heap.objs.size f cdv))) :
  SSs (cxOf (L2.CX P w) P w K mg base n_law "law" (defScope s_law) f cdv A outer s H E) F (fun c d _ H' => E c d H') (defBody s_law) b_law := by
  have C := ctx_of (P := P) (w := w) (mg := mg) (base := base) (N := n_law) (qual := "law") (sc := defScope s_law) (f := f) (cdv := cdv) (A := A) (outer := outer) (s := s) (H := H) (E := E) (F := F) (L := 3) hF (by decide +kernel) hr
  exact (sss_cons (ss_set 1 C.n (se_box (sf_lst (sa_cons (se_v 0) (sa_cons se_int (sa_cons se_int sa_nil))))))
  (sss_cons (ss_set 2 C.n (se_call c__law_stays (C.r.mono (by decide)) C.t (sa_cons (se_v 1) sa_nil)))
  (sss_cons (ss_set 3 C.n (se_call c_rooms (C.r.mono (by decide)) C.t (sa_cons (se_tree (sf_bty (cf_list C.k) cm_list M.g_list (sa_cons (se_v 2) sa_nil))) sa_nil)))
  (sss_cons (ss_setLc 4 false C.n C.c (si_val C.k (se_v 3)) (own := [("row", 6)]) (L2.blkOk_by (by kernel_rfl)) (fun _ _ _ _ _ => C.bG fun C => (sw_nm 6 C.n)) (fun _ _ _ _ _ => C.bT fun C => spt_nil) (fun _ _ _ _ _ => C.bE fun C => (se_bi (cd_sum C.k C.c) cm_sum M.g_sum (sa_cons (se_tree (sf_lc C.n C.c (si_val C.k (se_v 6)) (own := [("stay", 5)]) (L2.blkOk_by (by kernel_rfl)) (fun _ _ _ _ _ => C.bG fun C => (sw_nm 5 C.n)) (fun _ _ _ _ _ => C.bT fun C => spt_nil) (fun _ _ _ _ _ => C.bE fun C => (se_op2 cm_add (od_add C.k) (se_op2 cm_sub od_sub (se_ix C.k C.u (se_v 5) se_int) (se_ix C.k C.u (se_v 5) se_int)) se_int)))) sa_nil))))
  (sss_cons (ss_if ((sw_or (st_cmp (oc_ne C.k C.u) (se_call c_nights_taken (C.r.mono (by decide)) C.t (sa_cons (se_v 3) sa_nil)) (se_v 4)) (sw_or1 (st_cmp (oc_ne C.k C.u) (se_call c_most_room (C.r.mono (by decide)) C.t (sa_cons (se_v 3) sa_nil)) (se_ifExp (st_cmp (oc_ne C.k C.u) (se_v 4) (se_tree (sf_lst sa_nil))) (se_tup (sa_cons (se_mt C.k (by decide) PySem.F.plainAttrs_list PySem.F.slot_list_index PySem.F.type_list_index (md_index C.k) cm_index (se_v 4) (sa_cons (se_bi (cd_max1 C.k C.c) cm_max1 M.g_max (sa_cons (se_v 4) sa_nil)) sa_nil)) (sa_cons (se_bi (cd_max1 C.k C.c) cm_max1 M.g_max (sa_cons (se_v 4) sa_nil)) sa_nil))) se_non))))).st (sss_one (ss_ret se_bl)) sss_nil)
  (sss_cons (ss_if (st_cmp (oc_ne C.k C.u) (se_call c_room_lines (C.r.mono (by decide)) C.t (sa_cons (se_v 3) sa_nil)) (se_tree (sf_lc C.n C.c (si_val C.k (se_v 3)) (own := [("row", 6)]) (L2.blkOk_by (by kernel_rfl)) (fun _ _ _ _ _ => C.bG fun C => (sw_nm 6 C.n)) (fun _ _ _ _ _ => C.bT fun C => spt_nil) (fun _ _ _ _ _ => C.bE fun C => (se_mt C.k (by decide) PySem.F.plainAttrs_str PySem.F.slot_str_join PySem.F.type_str_join (md_join C.k) cm_join se_str (sa_cons (se_tree (sf_lc C.n C.c (si_val C.k (se_v 6)) (own := [("stay", 5)]) (L2.blkOk_by (by kernel_rfl)) (fun _ _ _ _ _ => C.bG fun C => (sw_nm 5 C.n)) (fun _ _ _ _ _ => C.bT fun C => spt_nil) (fun _ _ _ _ _ => C.bE fun C => (se_op2 cm_add (od_add C.k) (se_op2 cm_add (od_add C.k) (se_op2 cm_add (od_add C.k) (se_op2 cm_add (od_add C.k) (se_bty cd_str cm_str M.g_str (sa_cons (se_ix C.k C.u (se_v 5) se_int) sa_nil)) se_str) (se_bty cd_str cm_str M.g_str (sa_cons (se_ix C.k C.u (se_v 5) se_int) sa_nil))) se_str) (se_ix C.k C.u (se_v 5) se_int))))) sa_nil)))))) (sss_one (ss_ret se_bl)) sss_nil)
  (sss_cons (ss_for C.p C.c (si_val C.k (se_tree (sf_lst (sa_cons se_str (sa_cons se_str (sa_cons se_str sa_nil)))))) (sg_nm 7 C.n) (sss_one (ss_if (st_cmp (oc_ne C.k C.u) (se_call c_together (C.r.mono (by decide)) C.t (sa_cons (se_v 3) (sa_cons (se_v 7) sa_nil))) (se_tree (sf_lc C.n C.c (si_rg1 (se_bi (cd_len C.k) cm_len M.g_len (sa_cons (se_v 3) sa_nil)) M.g_range) (own := [("k", 8)]) (L2.blkOk_by (by kernel_rfl)) (fun _ _ _ _ _ => C.bG fun C => (sw_nm 8 C.n)) (fun _ _ _ _ _ => C.bT fun C => (spt_one (st_cmp (oc_in C.k C.u) (se_v 7) (se_tree (sf_lc C.n C.c (si_val C.k (se_ix C.k C.u (se_v 3) (se_v 8))) (own := [("stay", 5)]) (L2.blkOk_by (by kernel_rfl)) (fun _ _ _ _ _ => C.bG fun C => (sw_nm 5 C.n)) (fun _ _ _ _ _ => C.bT fun C => spt_nil) (fun _ _ _ _ _ => C.bE fun C => (se_ix C.k C.u (se_v 5) se_int))))))) (fun _ _ _ _ _ => C.bE fun C => (se_v 8))))) (sss_one (ss_ret se_bl)) sss_nil)))
  (sss_cons (ss_set 9 C.n (se_call c__law_take (C.r.mono (by decide)) C.t (sa_cons (se_v 1) (sa_cons se_int sa_nil))))
  (sss_cons (ss_set 10 C.n (se_tree (sf_lst sa_nil)))
  (sss_cons (ss_set 11 C.n (se_tree (sf_lst sa_nil)))
  (sss_cons (ss_for C.p C.c (si_rg1 (se_bi (cd_len C.k) cm_len M.g_len (sa_cons (se_v 3) sa_nil)) M.g_range) (sg_nm 8 C.n) (sss_cons (ss_set 10 C.n (se_tree (sf_cat (se_v 10) (se_tree (sf_lc C.n C.c (si_val C.k (se_ix C.k C.u (se_v 3) (se_v 8))) (own := [("stay", 5)]) (L2.blkOk_by (by kernel_rfl)) (fun _ _ _ _ _ => C.bG fun C => (sw_nm 5 C.n)) (fun _ _ _ _ _ => C.bT fun C => (spt_one (st_cmp (oc_eq C.k C.u) (se_ix C.k C.u (se_v 5) se_int) (se_v 9)))) (fun _ _ _ _ _ => C.bE fun C => (se_tup (sa_cons (se_v 8) (sa_cons (se_v 5) sa_nil)))))))))
  (sss_one (ss_set 11 C.n (se_tree (sf_cat (se_v 11) (se_tree (sf_lc C.n C.c (si_val C.k (se_ix C.k C.u (se_v 3) (se_v 8))) (own := [("stay", 5)]) (L2.blkOk_by (by kernel_rfl)) (fun _ _ _ _ _ => C.bG fun C => (sw_nm 5 C.n)) (fun _ _ _ _ _ => C.bT fun C => (spt_one (st_cmp (oc_eq C.k C.u) (se_ix C.k C.u (se_v 5) se_int) (se_op2 cm_sub od_sub (se_v 9) se_int)))) (fun _ _ _ _ _ => C.bE fun C => (se_tup (sa_cons (se_v 8) (sa_cons (se_v 5) sa_nil))))))))))))
  (sss_cons (ss_if (st_cmp (oc_ne C.k C.u) (se_call c_changes (C.r.mono (by decide)) C.t (sa_cons (se_v 3) (sa_cons (se_v 9) sa_nil))) (se_tup (sa_cons (se_v 10) (sa_cons (se_v 11) sa_nil)))) (sss_one (ss_ret se_bl)) sss_nil)
  (sss_cons (ss_for C.p C.c (si_rg1 se_int M.g_range) (sg_nm 8 C.n) (sss_cons (ss_set 12 C.n (se_call c__law_take (C.r.mono (by decide)) C.t (sa_cons (se_v 1) (sa_cons se_int sa_nil))))
  (sss_cons (ss_set 13 C.n (se_op2 cm_add (od_add C.k) (se_v 12) (se_call c__law_take (C.r.mono (by decide)) C.t (sa_cons (se_v 1) (sa_cons se_int sa_nil)))))
  (sss_cons (ss_set 14 C.n (se_tup (sa_cons (se_v 12) (sa_cons (se_v 13) (sa_cons se_str (sa_cons (se_op2 cm_add (od_add C.k) (se_v 8) se_int) sa_nil))))))
  (sss_cons (ss_set 15 C.n (se_call c__law_take (C.r.mono (by decide)) C.t (sa_cons (se_v 1) (sa_cons (se_op2 cm_add (od_add C.k) (se_bi (cd_len C.k) cm_len M.g_len (sa_cons (se_v 3) sa_nil)) se_int) sa_nil))))
  (sss_cons (ss_set 16 C.n (se_call c__law_take (C.r.mono (by decide)) C.t (sa_cons (se_v 1) (sa_cons (se_op2 cm_add (od_add C.k) (se_bi (cd_len C.k) cm_len M.g_len (sa_cons (se_v 3) sa_nil)) se_int) sa_nil))))
  (sss_cons (ss_if (st_cmp (oc_ne C.k C.u) (se_call c_free_rooms (C.r.mono (by decide)) C.t (sa_cons (se_v 3) (sa_cons (se_v 12) (sa_cons (se_v 13) sa_nil)))) (se_call c__law_free (C.r.mono (by decide)) C.t (sa_cons (se_v 3) (sa_cons (se_v 12) (sa_cons (se_v 13) sa_nil))))) (sss_one (ss_ret se_bl)) sss_nil)
  (sss_cons (ss_set 17 C.n se_non)
  (sss_cons (ss_if (st_cmp (oc_in C.k C.u) (se_v 15) (se_call c__law_free (C.r.mono (by decide)) C.t (sa_cons (se_v 3) (sa_cons (se_v 12) (sa_cons (se_v 13) sa_nil))))) (sss_one (ss_setLc 17 false C.n C.c (si_rg1 (se_bi (cd_len C.k) cm_len M.g_len (sa_cons (se_v 3) sa_nil)) M.g_range) (own := [("j", 18)]) (L2.blkOk_by (by kernel_rfl)) (fun _ _ _ _ _ => C.bG fun C => (sw_nm 18 C.n)) (fun _ _ _ _ _ => C.bT fun C => spt_nil) (fun _ _ _ _ _ => C.bE fun C => (se_ifExp (st_cmp (oc_eq C.k C.u) (se_v 18) (se_v 15)) (se_tree (sf_bi (cf_sort C.k) cm_sort M.g_sorted (sa_cons (se_tree (sf_cat (se_ix C.k C.u (se_v 3) (se_v 18)) (se_tree (sf_lst (sa_cons (se_v 14) sa_nil))))) sa_nil))) (se_ix C.k C.u (se_v 3) (se_v 18)))))) sss_nil)
  (sss_cons (ss_if ((sw_or (st_cmp (oc_ne C.k C.u) (se_call c__law_told (C.r.mono (by decide)) C.t (sa_cons se_int (sa_cons (se_tree (sf_lc C.n C.c (si_val C.k (se_v 3)) (own := [("row", 6)]) (L2.blkOk_by (by kernel_rfl)) (fun _ _ _ _ _ => C.bG fun C => (sw_nm 6 C.n)) (fun _ _ _ _ _ => C.bT fun C => spt_nil) (fun _ _ _ _ _ => C.bE fun C => (se_tree (sf_bty (cf_list C.k) cm_list M.g_list (sa_cons (se_v 6) sa_nil)))))) (sa_cons (se_v 15) (sa_cons se_int (sa_cons (se_v 14) sa_nil)))))) (se_v 17)) (sw_or1 ((sw_and (st_cmp oc_isNot (se_v 17) se_non) (sw_and1 (st_not (st_tru C.k (se_call c_is_housed (C.r.mono (by decide)) C.t (sa_cons (se_tree (sf_cat (se_v 2) (se_tree (sf_lst (sa_cons (se_v 14) sa_nil))))) (sa_cons (se_v 17) sa_nil)))))))).st))).st (sss_one (ss_ret se_bl)) sss_nil)
  (sss_cons (ss_set 19 C.n (se_call c__law_take (C.r.mono (by decide)) C.t (sa_cons (se_v 1) (sa_cons se_int sa_nil))))
  (sss_cons (ss_set 20 C.n (se_call c__law_exchanged (C.r.mono (by decide)) C.t (sa_cons (se_v 3) (sa_cons (se_v 15) (sa_cons (se_v 16) (sa_cons (se_v 19) sa_nil))))))
  (sss_one (ss_if ((sw_or (st_cmp (oc_ne C.k C.u) (se_call c__law_told (C.r.mono (by decide)) C.t (sa_cons se_int (sa_cons (se_tree (sf_lc C.n C.c (si_val C.k (se_v 3)) (own := [("row", 6)]) (L2.blkOk_by (by kernel_rfl)) (fun _ _ _ _ _ => C.bG fun C => (sw_nm 6 C.n)) (fun _ _ _ _ _ => C.bT fun C => spt_nil) (fun _ _ _ _ _ => C.bE fun C => (se_tree (sf_bty (cf_list C.k) cm_list M.g_list (sa_cons (se_v 6) sa_nil)))))) (sa_cons (se_v 15) (sa_cons (se_v 16) (sa_cons (se_v 19) sa_nil)))))) (se_v 20)) (sw_or1 ((sw_and (st_cmp oc_isNot (se_v 20) se_non) (sw_and1 (st_not (st_tru C.k (se_call c_is_housed (C.r.mono (by decide)) C.t (sa_cons (se_tree (sf_bty (cf_list C.k) cm_list M.g_list (sa_cons (se_v 2) sa_nil))) (sa_cons (se_v 20) sa_nil)))))))).st))).st (sss_one (ss_ret se_bl)) sss_nil))))))))))))))
  (sss_one (ss_ret (se_or (se_cmp (oc_eq C.k C.u) (se_v 3) (se_tree (sf_lst sa_nil))) (se_one (se_and (se_cmp oc_is (se_call c__law_told (C.r.mono (by decide)) C.t (sa_cons se_int (sa_cons (se_v 3) (sa_cons se_bl (sa_cons se_int (sa_cons (se_tup (sa_cons se_int (sa_cons se_int (sa_cons se_str (sa_cons se_int sa_nil))))) sa_nil)))))) se_non) (se_one (se_cmp oc_is (se_call c__law_told (C.r.mono (by decide)) C.t (sa_cons se_int (sa_cons (se_v 3) (sa_cons (se_op2 cm_sub od_sub se_int se_int) (sa_cons se_int (sa_cons se_int sa_nil)))))) se_non))))))))))))))))))))
end K25

namespace K25
open PySem PySem.Spec Z
def cellV (ns : List Int) (k : Nat) : Int := match ns[k]? with
  | some n => if n < 0 then -n else n
  | none => 37 * k + 11
theorem mul_nat {a k : Nat} (ha : a < 2 ^ 100) (hk : k < 2 ^ 100) (μ : Mem) : dMul (.int a) (.int k) μ = .ok (.int ((a : Int) * k)) μ := by
  have h1 : ∀ n : Nat, n < 2 ^ 100 → n.log2 ≤ 100 := fun n hn => by
    by_cases h0 : n = 0
    · subst h0; rw [Nat.log2_zero]; exact Nat.zero_le _
    · exact Nat.le_of_lt ((Nat.log2_lt h0).mpr hn)
  show (if _ then _ else _) = _
  rw [if_pos]
  rw [Int.natAbs_natCast, Int.natAbs_natCast]
  have := h1 a ha
  have := h1 k hk
  omega
theorem cell_ok (ns : List Int) (k : Nat) (μ : Mem) (hk : k < 2 ^ 60) : S__law_cell [.sq (ns.map D.int), .int k] μ = .ok (.int (cellV ns k)) μ := by
  by_cases h : k < ns.length
  · have h1 : (ns.map D.int)[k]? = some (.int ns[k]) := by simp [h]
    simp only [S__law_cell, dfn, b__law_cell, sSeq, sIf, Z.tCmp, fV, Env.at, fBi, fBl, fCons, fNil, sNext, sRet, sRetN, fOp2, fOp1, fC, fIx_eq, fTup, fItems, fTree, fBox, fIf, fTru, fCmp, Z.fChain, Z.tChain, Z.tAnd, Z.tOr, Z.tNot, fNot, fAnd, fOr, sSet, sDrop, sAsg, fCall, bind_ok, bind_exc, s_ok, s_exc, ofP_some, then_next, then_ret, then_exc, aNm, aTup, iVal, wk_l, wk_t, wk_s, ix_tup, ix_lst, ix_sq, at0, at1, at2, at3, len_lst, len_sq, List.getElem?_cons_zero, List.getElem?_cons_succ, List.set_cons_zero, List.set_cons_succ, Option.getD_some, Option.getD_none, Option.map_some, if_true, if_false, reduceIte, List.map_cons, List.map_nil, List.nil_append, List.cons_append, List.append_nil, List.length_cons, List.length_nil, List.replicate, Nat.zero_add, Nat.add_zero, Nat.reduceAdd, Nat.reduceSub, startD, tru_bl, tru_lst, add_int, sub_int, neg_int, lt_int, gt_int, le_int, ge_int, int_int, max_int, min_int, list_l, list_s, list_t, Bool.not_true, Bool.not_false, decide_true, decide_false, Bool.false_eq_true, List.length_append, List.append_eq, atI_nat h1, List.length_map, Int.ofNat_lt, h, dInt, dAbs, clean_ret]
    simp only [cellV, List.getElem?_eq_getElem h]
  · have m := mul_nat (a := 37) (k := k) (by decide) (by omega) μ
    have : ns[k]? = none := by simp; omega
    simp only [S__law_cell, dfn, b__law_cell, sSeq, sIf, Z.tCmp, fV, Env.at, fBi, fBl, fCons, fNil, sNext, sRet, sRetN, fOp2, fOp1, fC, fIx_eq, fTup, fItems, fTree, fBox, fIf, fTru, fCmp, Z.fChain, Z.tChain, Z.tAnd, Z.tOr, Z.tNot, fNot, fAnd, fOr, sSet, sDrop, sAsg, fCall, bind_ok, bind_exc, s_ok, s_exc, ofP_some, then_next, then_ret, then_exc, aNm, aTup, iVal, wk_l, wk_t, wk_s, ix_tup, ix_lst, ix_sq, at0, at1, at2, at3, len_lst, len_sq, List.getElem?_cons_zero, List.getElem?_cons_succ, List.set_cons_zero, List.set_cons_succ, Option.getD_some, Option.getD_none, Option.map_some, if_true, if_false, reduceIte, List.map_cons, List.map_nil, List.nil_append, List.cons_append, List.append_nil, List.length_cons, List.length_nil, List.replicate, Nat.zero_add, Nat.add_zero, Nat.reduceAdd, Nat.reduceSub, startD, tru_bl, tru_lst, add_int, sub_int, neg_int, lt_int, gt_int, le_int, ge_int, int_int, max_int, min_int, list_l, list_s, list_t, Bool.not_true, Bool.not_false, decide_true, decide_false, Bool.false_eq_true, List.length_append, List.append_eq, List.length_map, Int.ofNat_lt, h]
    simp only [show ((37 : Nat) : Int) = 37 from rfl] at m
    simp only [sSeq, sIf, Z.tCmp, fV, Env.at, fBi, fBl, fCons, fNil, sNext, sRet, sRetN, fOp2, fOp1, fC, fIx_eq, fTup, fItems, fTree, fBox, fIf, fTru, fCmp, Z.fChain, Z.tChain, Z.tAnd, Z.tOr, Z.tNot, fNot, fAnd, fOr, sSet, sDrop, sAsg, fCall, bind_ok, bind_exc, s_ok, s_exc, ofP_some, then_next, then_ret, then_exc, aNm, aTup, iVal, wk_l, wk_t, wk_s, ix_tup, ix_lst, ix_sq, at0, at1, at2, at3, len_lst, len_sq, List.getElem?_cons_zero, List.getElem?_cons_succ, List.set_cons_zero, List.set_cons_succ, Option.getD_some, Option.getD_none, Option.map_some, if_true, if_false, reduceIte, List.map_cons, List.map_nil, List.nil_append, List.cons_append, List.append_nil, List.length_cons, List.length_nil, List.replicate, Nat.zero_add, Nat.add_zero, Nat.reduceAdd, Nat.reduceSub, startD, tru_bl, tru_lst, add_int, sub_int, neg_int, lt_int, gt_int, le_int, ge_int, int_int, max_int, min_int, list_l, list_s, list_t, Bool.not_true, Bool.not_false, decide_true, decide_false, Bool.false_eq_true, List.length_append, List.append_eq, sRet, m, clean_ret, cellV, this]
/-- the memory: the state alone -/
def Ms (ns : List Int) (k : Nat) (v : Int) : Mem := [.lst [.sq (ns.map D.int), .int k, .int v]]
theorem ms_ix (ns : List Int) (k : Nat) (v i : Int) : dIx (.obj 0) (.int i) (Ms ns k v) = R.ofP (Ms ns k v) (L2.atI [.sq (ns.map D.int), .int k, .int v] i) := ix_obj i rfl
theorem pow9 (μ : Mem) : dPow (.int 10) (.int 9) μ = .ok (.int 1000000000) μ := by
  simp [dPow]
theorem div_ok (a : Int) {m : Nat} (h1 : 0 < m) (h2 : m < 2 ^ 60) (μ : Mem) : dDiv (.int a) (.int m) μ = .ok (.int (a / m)) μ := by
  show (if _ then _ else _) = _
  have h3 : m.log2 < 60 := (Nat.log2_lt (by omega)).mpr h2
  rw [if_pos ⟨by omega, by rw [Int.natAbs_natCast]; omega⟩]
theorem mod_ok (a : Int) {m : Nat} (h1 : 0 < m) (μ : Mem) : dMod (.int a) (.int m) μ = .ok (.int (a % m)) μ := by
  show (if _ then _ else _) = _
  rw [if_pos (by omega)]
theorem ms_set (ns : List Int) (k : Nat) (v w : Int) : dSetItem (.obj 0) (.int 2) (.int w) (Ms ns k v) = some (Ms ns k w) := rfl
theorem ms_set1 (ns : List Int) (k : Nat) (v : Int) : dSetItem (.obj 0) (.int 1) (.int ((k : Int) + 1)) (Ms ns k v) = some (Ms ns (k + 1) v) := rfl
theorem take_ok (ns : List Int) (k : Nat) (v : Int) {m : Nat} (hm : 0 < m) (hm2 : m < 2 ^ 60) (hk : k < 2 ^ 60) : ∃ (r k' : Nat) (v' : Int), S__law_take [.obj 0, .int m] (Ms ns k v) = .ok (.int r) (Ms ns k' v') ∧ r < m ∧ k' ≤ k + 1 := by
  have hr : ∀ a : Int, ∃ r : Nat, a % m = r ∧ r < m := fun a => ⟨(a % m).toNat, by have := Int.emod_nonneg a (b := m) (by omega); omega, by have := Int.emod_lt_of_pos a (b := m) (by omega); have := Int.emod_nonneg a (b := m) (by omega); omega⟩
  by_cases hv : 0 < v
  · obtain ⟨r, e, hl⟩ := hr v
    refine ⟨r, k, v / m, ?_, hl, by omega⟩
    simp only [S__law_take, dfn, b__law_take, sSeq, sIf, Z.tCmp, fV, Env.at, fBi, fBl, fCons, fNil, sNext, sRet, sRetN, fOp2, fOp1, fC, fIx_eq, fTup, fItems, fTree, fBox, fIf, fTru, fCmp, Z.fChain, Z.tChain, Z.tAnd, Z.tOr, Z.tNot, fNot, fAnd, fOr, sSet, sDrop, sAsg, fCall, bind_ok, bind_exc, s_ok, s_exc, ofP_some, then_next, then_ret, then_exc, aNm, aTup, iVal, wk_l, wk_t, wk_s, ix_tup, ix_lst, ix_sq, at0, at1, at2, at3, len_lst, len_sq, List.getElem?_cons_zero, List.getElem?_cons_succ, List.set_cons_zero, List.set_cons_succ, Option.getD_some, Option.getD_none, Option.map_some, if_true, if_false, reduceIte, List.map_cons, List.map_nil, List.nil_append, List.cons_append, List.append_nil, List.length_cons, List.length_nil, List.replicate, Nat.zero_add, Nat.add_zero, Nat.reduceAdd, Nat.reduceSub, startD, tru_bl, tru_lst, add_int, sub_int, neg_int, lt_int, gt_int, le_int, ge_int, int_int, max_int, min_int, list_l, list_s, list_t, Bool.not_true, Bool.not_false, decide_true, decide_false, Bool.false_eq_true, List.length_append, List.append_eq, ms_ix, hv, dInt, mod_ok v hm, e, sSetI, div_ok v hm hm2, ms_set, sRet]
    exact clean_ret' _ rfl
  · obtain ⟨r, e, hl⟩ := hr (cellV ns k)
    by_cases hc : 1000000000 ≤ cellV ns k
    · refine ⟨r, k + 1, cellV ns k / m, ?_, hl, by omega⟩
      simp only [S__law_take, dfn, b__law_take, sSeq, sIf, Z.tCmp, fV, Env.at, fBi, fBl, fCons, fNil, sNext, sRet, sRetN, fOp2, fOp1, fC, fIx_eq, fTup, fItems, fTree, fBox, fIf, fTru, fCmp, Z.fChain, Z.tChain, Z.tAnd, Z.tOr, Z.tNot, fNot, fAnd, fOr, sSet, sDrop, sAsg, fCall, bind_ok, bind_exc, s_ok, s_exc, ofP_some, then_next, then_ret, then_exc, aNm, aTup, iVal, wk_l, wk_t, wk_s, ix_tup, ix_lst, ix_sq, at0, at1, at2, at3, len_lst, len_sq, List.getElem?_cons_zero, List.getElem?_cons_succ, List.set_cons_zero, List.set_cons_succ, Option.getD_some, Option.getD_none, Option.map_some, if_true, if_false, reduceIte, List.map_cons, List.map_nil, List.nil_append, List.cons_append, List.append_nil, List.length_cons, List.length_nil, List.replicate, Nat.zero_add, Nat.add_zero, Nat.reduceAdd, Nat.reduceSub, startD, tru_bl, tru_lst, add_int, sub_int, neg_int, lt_int, gt_int, le_int, ge_int, int_int, max_int, min_int, list_l, list_s, list_t, Bool.not_true, Bool.not_false, decide_true, decide_false, Bool.false_eq_true, List.length_append, List.append_eq, ms_ix, hv, dInt, cell_ok ns k _ hk, sSetI, ms_set1, pow9, hc, div_ok _ hm hm2, ms_set, mod_ok _ hm, e, sRet]
      exact clean_ret' _ rfl
    · refine ⟨r, k + 1, v, ?_, hl, by omega⟩
      simp only [S__law_take, dfn, b__law_take, sSeq, sIf, Z.tCmp, fV, Env.at, fBi, fBl, fCons, fNil, sNext, sRet, sRetN, fOp2, fOp1, fC, fIx_eq, fTup, fItems, fTree, fBox, fIf, fTru, fCmp, Z.fChain, Z.tChain, Z.tAnd, Z.tOr, Z.tNot, fNot, fAnd, fOr, sSet, sDrop, sAsg, fCall, bind_ok, bind_exc, s_ok, s_exc, ofP_some, then_next, then_ret, then_exc, aNm, aTup, iVal, wk_l, wk_t, wk_s, ix_tup, ix_lst, ix_sq, at0, at1, at2, at3, len_lst, len_sq, List.getElem?_cons_zero, List.getElem?_cons_succ, List.set_cons_zero, List.set_cons_succ, Option.getD_some, Option.getD_none, Option.map_some, if_true, if_false, reduceIte, List.map_cons, List.map_nil, List.nil_append, List.cons_append, List.append_nil, List.length_cons, List.length_nil, List.replicate, Nat.zero_add, Nat.add_zero, Nat.reduceAdd, Nat.reduceSub, startD, tru_bl, tru_lst, add_int, sub_int, neg_int, lt_int, gt_int, le_int, ge_int, int_int, max_int, min_int, list_l, list_s, list_t, Bool.not_true, Bool.not_false, decide_true, decide_false, Bool.false_eq_true, List.length_append, List.append_eq, ms_ix, hv, dInt, cell_ok ns k _ hk, sSetI, ms_set1, pow9, hc, div_ok _ hm hm2, ms_set, mod_ok _ hm, e, sRet]
      exact clean_ret' _ rfl
end K25

namespace K25
open PySem PySem.Spec Z
/-! ### stays -/
structure Stay where
  a : Int
  b : Int
  n : Str
  k : Int
abbrev Row := List Stay
def dS (s : Stay) : D := .tup [.int s.a, .int s.b, .str s.n, .int s.k]
def dR (r : Row) : D := .lst (r.map dS)
def dT (t : List Row) : D := .lst (t.map dR)
theorem fit_S (s : Stay) : D.fit 1 (dS s) = true := by simp [dS, D.fit, D.fits]
theorem fit_R (r : Row) : D.fit 2 (dR r) = true := fit_lst (fits_map dS r fun x _ => fit_S x)
theorem fit_T (t : List Row) : D.fit 3 (dT t) = true := fit_lst (fits_map dR t fun x _ => fit_R x)
theorem lo_S (m : Nat) (s : Stay) : D.lo m (dS s) = true := by simp [dS, D.lo, D.los]
theorem los_map {α : Type} (m : Nat) (f : α → D) (h : ∀ x, D.lo m (f x) = true) (xs : List α) : D.los m (xs.map f) = true := by
  rw [D.los_all, List.all_eq_true]
  intro d hd
  obtain ⟨x, _, rfl⟩ := List.mem_map.mp hd
  exact h x
theorem lo_R (m : Nat) (r : Row) : D.lo m (dR r) = true := by simp only [dR, D.lo]; exact los_map m dS (lo_S m) r
theorem lo_T (m : Nat) (t : List Row) : D.lo m (dT t) = true := by simp only [dT, D.lo]; exact los_map m dR (lo_R m) t
theorem ixS0 (s : Stay) (μ : Mem) : dIx (dS s) (.int 0) μ = .ok (.int s.a) μ := rfl
theorem ixS1 (s : Stay) (μ : Mem) : dIx (dS s) (.int 1) μ = .ok (.int s.b) μ := rfl
theorem ixS2 (s : Stay) (μ : Mem) : dIx (dS s) (.int 2) μ = .ok (.str s.n) μ := rfl
theorem ixT {t : List Row} {i : Nat} {r : Row} (h : t[i]? = some r) (μ : Mem) : dIx (dT t) (.int i) μ = .ok (dR r) μ := by
  show dIx (.lst _) _ _ = _
  rw [ix_lst, atI_nat (x := dR r) (by rw [List.getElem?_map, h]; rfl)]
  rfl
theorem wkR (r : Row) (μ : Mem) : wkD (dR r) μ = some ⟨r.map dS, none⟩ := rfl
theorem wkT (t : List Row) (μ : Mem) : wkD (dT t) μ = some ⟨t.map dR, none⟩ := rfl
theorem lenT (t : List Row) (μ : Mem) : dLen [dT t] μ = .ok (.int t.length) μ := by
  show dLen [.lst _] μ = _
  rw [len_lst, List.length_map]
theorem lenR (t : Row) (μ : Mem) : dLen [dR t] μ = .ok (.int t.length) μ := by
  show dLen [.lst _] μ = _
  rw [len_lst, List.length_map]
/-- sorted by all items in turn -/
def leS (x y : Stay) : Bool := leD (dS x) (dS y)
def sortS (r : Row) : Row := r.mergeSort leS
theorem sortD_S (r : Row) : sortD (r.map dS) = (sortS r).map dS := by
  unfold sortD sortS
  rw [List.map_mergeSort]
  intro a _ b _; rfl
theorem leS_a {x y : Stay} (h : leS x y = true) : x.a ≤ y.a := by
  by_cases c : y.a < x.a
  · exfalso
    have e : leS x y = (!(decide (y.a < x.a) || _)) := rfl
    rw [e, decide_eq_true c] at h
    simp at h
  · omega
theorem sortS_perm (r : Row) : (sortS r).Perm r := List.mergeSort_perm r leS
theorem sortS_sorted (r : Row) : (sortS r).Pairwise fun x y => leS x y = true :=
  List.pairwise_mergeSort (fun a b c => leK_trans (kS (dS a)) (kS (dS b)) (kS (dS c))) (fun a b => leK_total (kS (dS a)) (kS (dS b))) r
theorem frm_S (s : Stay) : frmD (dS s) = some (.tups [false, false, true, false]) := rfl
theorem sort_ok (r : Row) (μ : Mem) : dSort [dR r] μ = .ok ((sortS r).map dS) μ := by
  cases r with
  | nil =>
    have e : sortS [] = [] := by unfold sortS; exact List.mergeSort_nil
    have e2 : sortD [] = [] := by unfold sortD; exact List.mergeSort_nil
    show R.ok (sortD []) μ = _
    rw [e, e2]; rfl
  | cons x r =>
    have e : frmOk ((x :: r).map dS) = some (.tups [false, false, true, false]) := by
      simp only [List.map_cons, frmOk, frm_S]
      rw [if_pos]
      rw [List.all_eq_true]
      intro d hd
      obtain ⟨y, _, rfl⟩ := List.mem_map.mp hd
      exact decide_eq_true (frm_S y)
    have e2 : lstD μ (dR (x :: r)) = some ((x :: r).map dS) := rfl
    unfold dSort
    simp only [e2, e, sortD_S]
    rfl
theorem stay_inj {x y : Stay} (h : dS x = dS y) : x = y := by
  cases x; cases y
  simp only [dS, D.tup.injEq, List.cons.injEq, D.int.injEq, D.str.injEq] at h
  obtain ⟨rfl, rfl, rfl, rfl, _⟩ := h
  rfl
theorem sortS_eq {r r' : Row} (h : r.Perm r') : sortS r = sortS r' := by
  refine List.Perm.eq_of_pairwise (le := fun x y => leS x y = true) (fun a b _ _ h1 h2 => stay_inj (kS_inj (frm_S a) (frm_S b) (leK_anti h1 h2))) (sortS_sorted r) (sortS_sorted r') ?_
  exact (sortS_perm r).trans (h.trans (sortS_perm r').symm)
/-! ### the plain defs -/
def spanR (r : Row) : Int := (r.map fun s => s.b - s.a + 1).sum
theorem sum_ints (ns : List Int) (μ : Mem) : dSum [.lst (ns.map D.int)] μ = .ok (.int ns.sum) μ := by
  have e : ∀ ns : List Int, intsD (ns.map D.int) = some ns := fun ns => by
    induction ns with
    | nil => rfl
    | cons n ns ih => simp [intsD, ih]
  show (match (lstD μ (.lst (ns.map D.int))).bind intsD with | some ns => _ | none => _) = _
  have e2 : (lstD μ (.lst (ns.map D.int))).bind intsD = some ns := e ns
  rw [e2]
theorem span_ok (r : Row) (hr : r.length ≤ 1000) (ρ : Z.Env) (μ : Mem) (i j : Nat) (hi : ρ[i]? = some (some (dR r))) (hj : j < ρ.length) :
    fLc (iVal (fV i)) (aNm j) tYes (fOp2 dAdd (fOp2 dSub (fIx (fV j) (fC (.int 1))) (fIx (fV j) (fC (.int 0)))) (fC (.int 1))) [j] ρ μ = .ok (r.map fun s => .int (s.b - s.a + 1)) μ := by
  refine fLc_yes dS (fun s => .int (s.b - s.a + 1)) (gd := none) ?_ trivial (sl1000 hr) fun s _ => ?_
  · simp only [sSeq, sIf, Z.tCmp, fV, Env.at, fBi, fBl, fCons, fNil, sNext, sRet, sRetN, fOp2, fOp1, fC, fIx_eq, fTup, fItems, fTree, fBox, fIf, fTru, fCmp, Z.fChain, Z.tChain, Z.tAnd, Z.tOr, Z.tNot, fNot, fAnd, fOr, sSet, sDrop, sAsg, fCall, bind_ok, bind_exc, s_ok, s_exc, ofP_some, then_next, then_ret, then_exc, aNm, aTup, iVal, wk_l, wk_t, wk_s, ix_tup, ix_lst, ix_sq, at0, at1, at2, at3, len_lst, len_sq, List.getElem?_cons_zero, List.getElem?_cons_succ, List.set_cons_zero, List.set_cons_succ, Option.getD_some, Option.getD_none, Option.map_some, if_true, if_false, reduceIte, List.map_cons, List.map_nil, List.nil_append, List.cons_append, List.append_nil, List.length_cons, List.length_nil, List.replicate, Nat.zero_add, Nat.add_zero, Nat.reduceAdd, Nat.reduceSub, startD, tru_bl, tru_lst, add_int, sub_int, neg_int, lt_int, gt_int, le_int, ge_int, int_int, max_int, min_int, list_l, list_s, list_t, Bool.not_true, Bool.not_false, decide_true, decide_false, Bool.false_eq_true, List.length_append, List.append_eq, hi, wkR]
  · have e : ((wipeD ρ [j]).set j (some (dS s)))[j]? = some (some (dS s)) := by
      rw [List.getElem?_set_self]
      simpa [wipeD] using hj
    refine ⟨(wipeD ρ [j]).set j (some (dS s)), rfl, ?_⟩
    simp only [sSeq, sIf, Z.tCmp, fV, Env.at, fBi, fBl, fCons, fNil, sNext, sRet, sRetN, fOp2, fOp1, fC, fIx_eq, fTup, fItems, fTree, fBox, fIf, fTru, fCmp, Z.fChain, Z.tChain, Z.tAnd, Z.tOr, Z.tNot, fNot, fAnd, fOr, sSet, sDrop, sAsg, fCall, bind_ok, bind_exc, s_ok, s_exc, ofP_some, then_next, then_ret, then_exc, aNm, aTup, iVal, wk_l, wk_t, wk_s, ix_tup, ix_lst, ix_sq, at0, at1, at2, at3, len_lst, len_sq, List.getElem?_cons_zero, List.getElem?_cons_succ, List.set_cons_zero, List.set_cons_succ, Option.getD_some, Option.getD_none, Option.map_some, if_true, if_false, reduceIte, List.map_cons, List.map_nil, List.nil_append, List.cons_append, List.append_nil, List.length_cons, List.length_nil, List.replicate, Nat.zero_add, Nat.add_zero, Nat.reduceAdd, Nat.reduceSub, startD, tru_bl, tru_lst, add_int, sub_int, neg_int, lt_int, gt_int, le_int, ge_int, int_int, max_int, min_int, list_l, list_s, list_t, Bool.not_true, Bool.not_false, decide_true, decide_false, Bool.false_eq_true, List.length_append, List.append_eq, e, ixS0, ixS1]
theorem map_map_int {α : Type} (f : α → Int) (xs : List α) : xs.map (fun x => D.int (f x)) = (xs.map f).map D.int := by rw [List.map_map]; rfl
theorem nights_ok (t : List Row) (h1 : t.length ≤ 1000) (h2 : ∀ r ∈ t, r.length ≤ 1000) (μ : Mem) : S_nights_taken [dT t] μ = .ok (.lst (t.map fun r => .int (spanR r))) μ := by
  have key : fLc (iVal (fV 0)) (aNm 2) tYes (fBi dSum (fCons (fTree (fLc (iVal (fV 2)) (aNm 1) tYes (fOp2 dAdd (fOp2 dSub (fIx (fV 1) (fC (.int 1))) (fIx (fV 1) (fC (.int 0)))) (fC (.int 1))) [1])) fNil)) [2] [some (dT t), none, none] μ = .ok (t.map fun r => .int (spanR r)) μ := by
    refine fLc_yes dR (fun r => .int (spanR r)) (gd := none) ?_ trivial (sl1000 h1) fun r hr => ?_
    · simp only [sSeq, sIf, Z.tCmp, fV, Env.at, fBi, fBl, fCons, fNil, sNext, sRet, sRetN, fOp2, fOp1, fC, fIx_eq, fTup, fItems, fTree, fBox, fIf, fTru, fCmp, Z.fChain, Z.tChain, Z.tAnd, Z.tOr, Z.tNot, fNot, fAnd, fOr, sSet, sDrop, sAsg, fCall, bind_ok, bind_exc, s_ok, s_exc, ofP_some, then_next, then_ret, then_exc, aNm, aTup, iVal, wk_l, wk_t, wk_s, ix_tup, ix_lst, ix_sq, at0, at1, at2, at3, len_lst, len_sq, List.getElem?_cons_zero, List.getElem?_cons_succ, List.set_cons_zero, List.set_cons_succ, Option.getD_some, Option.getD_none, Option.map_some, if_true, if_false, reduceIte, List.map_cons, List.map_nil, List.nil_append, List.cons_append, List.append_nil, List.length_cons, List.length_nil, List.replicate, Nat.zero_add, Nat.add_zero, Nat.reduceAdd, Nat.reduceSub, startD, tru_bl, tru_lst, add_int, sub_int, neg_int, lt_int, gt_int, le_int, ge_int, int_int, max_int, min_int, list_l, list_s, list_t, Bool.not_true, Bool.not_false, decide_true, decide_false, Bool.false_eq_true, List.length_append, List.append_eq, wkT]
    · refine ⟨[some (dT t), none, some (dR r)], rfl, ?_⟩
      simp only [sSeq, sIf, Z.tCmp, fV, Env.at, fBi, fBl, fCons, fNil, sNext, sRet, sRetN, fOp2, fOp1, fC, fIx_eq, fTup, fItems, fTree, fBox, fIf, fTru, fCmp, Z.fChain, Z.tChain, Z.tAnd, Z.tOr, Z.tNot, fNot, fAnd, fOr, sSet, sDrop, sAsg, fCall, bind_ok, bind_exc, s_ok, s_exc, ofP_some, then_next, then_ret, then_exc, aNm, aTup, iVal, wk_l, wk_t, wk_s, ix_tup, ix_lst, ix_sq, at0, at1, at2, at3, len_lst, len_sq, List.getElem?_cons_zero, List.getElem?_cons_succ, List.set_cons_zero, List.set_cons_succ, Option.getD_some, Option.getD_none, Option.map_some, if_true, if_false, reduceIte, List.map_cons, List.map_nil, List.nil_append, List.cons_append, List.append_nil, List.length_cons, List.length_nil, List.replicate, Nat.zero_add, Nat.add_zero, Nat.reduceAdd, Nat.reduceSub, startD, tru_bl, tru_lst, add_int, sub_int, neg_int, lt_int, gt_int, le_int, ge_int, int_int, max_int, min_int, list_l, list_s, list_t, Bool.not_true, Bool.not_false, decide_true, decide_false, Bool.false_eq_true, List.length_append, List.append_eq, span_ok r (h2 r hr) [some (dT t), none, some (dR r)] μ 2 1 rfl (by simp), map_map_int]
      exact sum_ints _ μ
  simp only [S_nights_taken, dfn, b_nights_taken, sSeq, sIf, Z.tCmp, fV, Env.at, fBi, fBl, fCons, fNil, sNext, sRet, sRetN, fOp2, fOp1, fC, fIx_eq, fTup, fItems, fTree, fBox, fIf, fTru, fCmp, Z.fChain, Z.tChain, Z.tAnd, Z.tOr, Z.tNot, fNot, fAnd, fOr, sSet, sDrop, sAsg, fCall, bind_ok, bind_exc, s_ok, s_exc, ofP_some, then_next, then_ret, then_exc, aNm, aTup, iVal, wk_l, wk_t, wk_s, ix_tup, ix_lst, ix_sq, at0, at1, at2, at3, len_lst, len_sq, List.getElem?_cons_zero, List.getElem?_cons_succ, List.set_cons_zero, List.set_cons_succ, Option.getD_some, Option.getD_none, Option.map_some, if_true, if_false, reduceIte, List.map_cons, List.map_nil, List.nil_append, List.cons_append, List.append_nil, List.length_cons, List.length_nil, List.replicate, Nat.zero_add, Nat.add_zero, Nat.reduceAdd, Nat.reduceSub, startD, tru_bl, tru_lst, add_int, sub_int, neg_int, lt_int, gt_int, le_int, ge_int, int_int, max_int, min_int, list_l, list_s, list_t, Bool.not_true, Bool.not_false, decide_true, decide_false, Bool.false_eq_true, List.length_append, List.append_eq, sRet, key, clean_ret]
end K25

namespace K25
open PySem PySem.Spec Z
/-! ### rooms -/
def lastB (r : Row) : Int := (r.getLast?.map (·.b)).getD 0
def plc (t : List Row) (s : Stay) : Nat := t.findIdx fun r => decide (lastB r < s.a)
def ext (t : List Row) (s : Stay) : List Row := if plc t s = t.length then t ++ [[]] else t
def putS (t : List Row) (s : Stay) : List Row := (ext t s).set (plc t s) ((ext t s).getD (plc t s) [] ++ [s])
def roomsM (xs : Row) : List Row := xs.foldl putS []
def lc (r : Row) : Cell := .lst (r.map dS)
def fc (r : Row) : Cell := .fz (dR r)
def hs (n m : Nat) : List D := (List.range m).map fun i => .obj (n + i)
def RM (μ : Mem) (t : List Row) : Mem := μ ++ .lst (hs (μ.length + 1) t.length) :: t.map lc
theorem rm_len (μ : Mem) (t : List Row) : (RM μ t).length = μ.length + 1 + t.length := by simp [RM]; omega
theorem rm0 (μ : Mem) (t : List Row) : (RM μ t)[μ.length]? = some (.lst (hs (μ.length + 1) t.length)) := by simp [RM]
theorem rmi {μ : Mem} {t : List Row} {i : Nat} {r : Row} (h : t[i]? = some r) : (RM μ t)[μ.length + 1 + i]? = some (.lst (r.map dS)) := by
  unfold RM
  rw [List.getElem?_append_right (by omega), show μ.length + 1 + i - μ.length = i + 1 by omega, List.getElem?_cons_succ, List.getElem?_map, h]; rfl
theorem hs_at {n m i : Nat} (h : i < m) : (hs n m)[i]? = some (.obj (n + i)) := by
  unfold hs
  rw [List.getElem?_map, List.getElem?_range h]; rfl
theorem hs_len (n m : Nat) : (hs n m).length = m := by simp [hs]
theorem hs_succ (n m : Nat) : hs n (m + 1) = hs n m ++ [.obj (n + m)] := by simp [hs, List.range_succ]
theorem plc_le (t : List Row) (s : Stay) : plc t s ≤ t.length := List.findIdx_le_length
theorem plc_no {t : List Row} {s : Stay} {p : Nat} {r : Row} (h : p < plc t s) (hr : t[p]? = some r) : s.a ≤ lastB r := by
  have := List.not_of_lt_findIdx (p := fun r => decide (lastB r < s.a)) h
  obtain ⟨h1, h2⟩ := List.getElem?_eq_some_iff.mp hr
  rw [h2] at this
  simpa using this
theorem plc_yes {t : List Row} {s : Stay} {r : Row} (hr : t[plc t s]? = some r) : lastB r < s.a := by
  obtain ⟨h1, h2⟩ := List.getElem?_eq_some_iff.mp hr
  have := List.findIdx_getElem (p := fun r => decide (lastB r < s.a)) (w := h1)
  have h3 : decide (lastB t[plc t s] < s.a) = true := this
  rw [h2] at h3
  simpa using h3
theorem last_ix {μ μ' : Mem} {n : Nat} {r : Row} (hr : r ≠ []) (h : μ'[n]? = some (.lst (r.map dS))) : ∃ s, dIx (.obj n) (.int (-1)) μ' = .ok (dS s) μ' ∧ lastB r = s.b := by
  obtain ⟨s, hs⟩ := Option.isSome_iff_exists.mp (show r.getLast?.isSome by simp [List.getLast?_isSome, hr])
  refine ⟨s, ?_, by simp [lastB, hs]⟩
  rw [ix_obj _ h, atI_last (x := dS s) (by rw [List.getLast?_map, hs]; rfl)]
  rfl
def cW : SemT := Z.tAnd (Z.tCmp dLt (fV 3) (fBi dLen (fCons (fV 1) fNil))) (Z.tCmp dGe (fIx (fIx (fIx (fV 1) (fV 3)) (fOp1 dNeg (fC (.int 1)))) (fC (.int 1))) (fIx (fV 2) (fC (.int 0))))
def bW : SemS := sSet 3 (fOp2 dAdd (fV 3) (fC (.int 1)))
theorem whl (μ : Mem) (t : List Row) (s : Stay) (x0 x4 : Option D) (hne : ∀ r ∈ t, r ≠ []) : ∀ (d p : Nat), p + d = plc t s → whileN cW bW (d + 1) [x0, some (.obj μ.length), some (dS s), some (.int p), x4] (RM μ t) = .next [x0, some (.obj μ.length), some (dS s), some (.int (plc t s)), x4] (RM μ t)
  | 0, p, h => by
    have hp : p = plc t s := by omega
    subst hp
    have hc : cW [x0, some (.obj μ.length), some (dS s), some (.int (plc t s)), x4] (RM μ t) = .ok false (RM μ t) := by
      by_cases hl : plc t s < t.length
      · obtain ⟨r, hr⟩ : ∃ r, t[plc t s]? = some r := ⟨_, List.getElem?_eq_getElem hl⟩
        obtain ⟨z, h1, h2⟩ := last_ix (hne r (List.mem_of_getElem? hr)) (rmi (μ := μ) hr) (μ := μ)
        have h3 := plc_yes hr
        rw [h2] at h3
        have h4 : ¬ s.a ≤ z.b := by omega
        have hl' : (plc t s : Int) < t.length := by omega
        simp only [cW, sSeq, sIf, Z.tCmp, fV, Env.at, fBi, fBl, fCons, fNil, sNext, sRet, sRetN, fOp2, fOp1, fC, fIx_eq, fTup, fItems, fTree, fBox, fIf, fTru, fCmp, Z.fChain, Z.tChain, Z.tAnd, Z.tOr, Z.tNot, fNot, fAnd, fOr, sSet, sDrop, sAsg, fCall, bind_ok, bind_exc, s_ok, s_exc, ofP_some, then_next, then_ret, then_exc, aNm, aTup, iVal, wk_l, wk_t, wk_s, ix_tup, ix_lst, ix_sq, at0, at1, at2, at3, len_lst, len_sq, List.getElem?_cons_zero, List.getElem?_cons_succ, List.set_cons_zero, List.set_cons_succ, Option.getD_some, Option.getD_none, Option.map_some, if_true, if_false, reduceIte, List.map_cons, List.map_nil, List.nil_append, List.cons_append, List.append_nil, List.length_cons, List.length_nil, List.replicate, Nat.zero_add, Nat.add_zero, Nat.reduceAdd, Nat.reduceSub, startD, tru_bl, tru_lst, add_int, sub_int, neg_int, lt_int, gt_int, le_int, ge_int, int_int, max_int, min_int, list_l, list_s, list_t, Bool.not_true, Bool.not_false, decide_true, decide_false, Bool.false_eq_true, List.length_append, List.append_eq, len_obj (rm0 μ t), hs_len, hl', ix_obj _ (rm0 μ t), atI_nat (hs_at hl), h1, ixS1, ixS0, h4]
      · have hl' : ¬ (plc t s : Int) < t.length := by omega
        simp only [cW, sSeq, sIf, Z.tCmp, fV, Env.at, fBi, fBl, fCons, fNil, sNext, sRet, sRetN, fOp2, fOp1, fC, fIx_eq, fTup, fItems, fTree, fBox, fIf, fTru, fCmp, Z.fChain, Z.tChain, Z.tAnd, Z.tOr, Z.tNot, fNot, fAnd, fOr, sSet, sDrop, sAsg, fCall, bind_ok, bind_exc, s_ok, s_exc, ofP_some, then_next, then_ret, then_exc, aNm, aTup, iVal, wk_l, wk_t, wk_s, ix_tup, ix_lst, ix_sq, at0, at1, at2, at3, len_lst, len_sq, List.getElem?_cons_zero, List.getElem?_cons_succ, List.set_cons_zero, List.set_cons_succ, Option.getD_some, Option.getD_none, Option.map_some, if_true, if_false, reduceIte, List.map_cons, List.map_nil, List.nil_append, List.cons_append, List.append_nil, List.length_cons, List.length_nil, List.replicate, Nat.zero_add, Nat.add_zero, Nat.reduceAdd, Nat.reduceSub, startD, tru_bl, tru_lst, add_int, sub_int, neg_int, lt_int, gt_int, le_int, ge_int, int_int, max_int, min_int, list_l, list_s, list_t, Bool.not_true, Bool.not_false, decide_true, decide_false, Bool.false_eq_true, List.length_append, List.append_eq, len_obj (rm0 μ t), hs_len, hl']
    rw [whileN_succ, hc]
    rfl
  | d + 1, p, h => by
    have hp : p < plc t s := by omega
    have hl : p < t.length := Nat.lt_of_lt_of_le hp (plc_le t s)
    have hc : cW [x0, some (.obj μ.length), some (dS s), some (.int p), x4] (RM μ t) = .ok true (RM μ t) := by
      obtain ⟨r, hr⟩ : ∃ r, t[p]? = some r := ⟨_, List.getElem?_eq_getElem hl⟩
      obtain ⟨z, h1, h2⟩ := last_ix (hne r (List.mem_of_getElem? hr)) (rmi (μ := μ) hr) (μ := μ)
      have h3 := plc_no hp hr
      rw [h2] at h3
      have hl' : (p : Int) < t.length := by omega
      simp only [cW, sSeq, sIf, Z.tCmp, fV, Env.at, fBi, fBl, fCons, fNil, sNext, sRet, sRetN, fOp2, fOp1, fC, fIx_eq, fTup, fItems, fTree, fBox, fIf, fTru, fCmp, Z.fChain, Z.tChain, Z.tAnd, Z.tOr, Z.tNot, fNot, fAnd, fOr, sSet, sDrop, sAsg, fCall, bind_ok, bind_exc, s_ok, s_exc, ofP_some, then_next, then_ret, then_exc, aNm, aTup, iVal, wk_l, wk_t, wk_s, ix_tup, ix_lst, ix_sq, at0, at1, at2, at3, len_lst, len_sq, List.getElem?_cons_zero, List.getElem?_cons_succ, List.set_cons_zero, List.set_cons_succ, Option.getD_some, Option.getD_none, Option.map_some, if_true, if_false, reduceIte, List.map_cons, List.map_nil, List.nil_append, List.cons_append, List.append_nil, List.length_cons, List.length_nil, List.replicate, Nat.zero_add, Nat.add_zero, Nat.reduceAdd, Nat.reduceSub, startD, tru_bl, tru_lst, add_int, sub_int, neg_int, lt_int, gt_int, le_int, ge_int, int_int, max_int, min_int, list_l, list_s, list_t, Bool.not_true, Bool.not_false, decide_true, decide_false, Bool.false_eq_true, List.length_append, List.append_eq, len_obj (rm0 μ t), hs_len, hl', ix_obj _ (rm0 μ t), atI_nat (hs_at hl), h1, ixS1, ixS0, h3]
    have hb : bW [x0, some (.obj μ.length), some (dS s), some (.int p), x4] (RM μ t) = .next [x0, some (.obj μ.length), some (dS s), some (.int ((p + 1 : Nat) : Int)), x4] (RM μ t) := by
      simp only [bW, sSeq, sIf, Z.tCmp, fV, Env.at, fBi, fBl, fCons, fNil, sNext, sRet, sRetN, fOp2, fOp1, fC, fIx_eq, fTup, fItems, fTree, fBox, fIf, fTru, fCmp, Z.fChain, Z.tChain, Z.tAnd, Z.tOr, Z.tNot, fNot, fAnd, fOr, sSet, sDrop, sAsg, fCall, bind_ok, bind_exc, s_ok, s_exc, ofP_some, then_next, then_ret, then_exc, aNm, aTup, iVal, wk_l, wk_t, wk_s, ix_tup, ix_lst, ix_sq, at0, at1, at2, at3, len_lst, len_sq, List.getElem?_cons_zero, List.getElem?_cons_succ, List.set_cons_zero, List.set_cons_succ, Option.getD_some, Option.getD_none, Option.map_some, if_true, if_false, reduceIte, List.map_cons, List.map_nil, List.nil_append, List.cons_append, List.append_nil, List.length_cons, List.length_nil, List.replicate, Nat.zero_add, Nat.add_zero, Nat.reduceAdd, Nat.reduceSub, startD, tru_bl, tru_lst, add_int, sub_int, neg_int, lt_int, gt_int, le_int, ge_int, int_int, max_int, min_int, list_l, list_s, list_t, Bool.not_true, Bool.not_false, decide_true, decide_false, Bool.false_eq_true, List.length_append, List.append_eq]; rfl
    rw [whileN_succ, hc]
    simp only [s_ok, hb, if_true]
    exact whl μ t s x0 x4 hne d (p + 1) (by omega)
theorem mt_list {o : Z.Sem} {es : SemA} {ρ : Z.Env} {μ μ1 : Mem} {x : D} {op : D → List D → Mem → R D} {ds : List D} (ho : o ρ μ = .ok x μ1) (hl : lstD μ1 x = some ds) : fMtT "list" op o es ρ μ = (es ρ μ1).bind fun ds μ => op x ds μ := by
  unfold fMtT
  rw [ho, bind_ok]
  have : tyD "list" x μ1 = true := by
    cases x with
    | str y => simp [lstD] at hl
    | int i => simp [lstD] at hl
    | dic ks vs => simp [lstD] at hl
    | _ => simp only [tyD, hl]; rfl
  rw [if_pos this]
theorem lst_obj {μ : Mem} {n : Nat} {ds : List D} (h : μ[n]? = some (.lst ds)) : lstD μ (.obj n) = some ds := by simp [lstD, h]
theorem append_ok {μ : Mem} {n : Nat} {ds : List D} (d : D) (h : μ[n]? = some (.lst ds)) (hl : ds.length ≤ 1000) : dAppend (.obj n) [d] μ = .ok .non (μ.set n (.lst (ds ++ [d]))) := by
  unfold dAppend
  have e : cellL μ (.obj n) = some (n, ds) := by simp [cellL, h]
  simp only [e]
  rw [if_pos (Nat.lt_of_le_of_lt hl (by rw [sizeLine_eq]; decide))]
  rfl
theorem set_flat (s : Stay) : ∀ (t : List Row) (i : Nat), i < t.length → (t.set i (t.getD i [] ++ [s])).flatten.Perm (s :: t.flatten)
  | r :: t, 0, _ => by
    simp only [List.set_cons_zero, List.getD_cons_zero, List.flatten_cons]
    rw [List.append_assoc]
    exact List.perm_middle
  | r :: t, i + 1, h => by
    simp only [List.set_cons_succ, List.getD_cons_succ, List.flatten_cons]
    exact ((set_flat s t i (by simpa using h)).append_left r).trans List.perm_middle
theorem ext_len (t : List Row) (s : Stay) : plc t s < (ext t s).length := by
  unfold ext
  split
  · rename_i h; simp [h]
  · rename_i h; have := plc_le t s; omega
theorem putS_perm (t : List Row) (s : Stay) : (putS t s).flatten.Perm (s :: t.flatten) := by
  refine (set_flat s (ext t s) (plc t s) (ext_len t s)).trans ?_
  unfold ext
  split
  · simp
  · exact .refl _
theorem fold_perm : ∀ (xs : Row) (t : List Row), (xs.foldl putS t).flatten.Perm (xs ++ t.flatten)
  | [], t => .refl _
  | x :: xs, t => by
    refine (fold_perm xs (putS t x)).trans ?_
    exact ((putS_perm t x).append_left xs).trans List.perm_middle
theorem rooms_perm (xs : Row) : (roomsM xs).flatten.Perm xs := by
  have := fold_perm xs []
  rw [List.flatten_nil, List.append_nil] at this
  exact this
theorem putS_ne {t : List Row} (h : ∀ r ∈ t, r ≠ []) (s : Stay) : ∀ r ∈ putS t s, r ≠ [] := by
  intro r hr
  unfold putS at hr
  obtain ⟨i, hi, e⟩ := List.getElem_of_mem hr
  by_cases c : plc t s = i
  · subst c
    rw [List.getElem_set_self] at e
    subst e; simp
  · rw [List.getElem_set_ne c] at e
    have hi' : i < (ext t s).length := by simpa using hi
    unfold ext at e hi'
    split at e
    · rename_i h2
      by_cases c2 : i < t.length
      · rw [List.getElem_append_left c2] at e
        subst e; exact h _ (List.getElem_mem c2)
      · rw [if_pos h2] at hi'; simp at hi'; omega
    · subst e; exact h _ (List.getElem_mem _)
theorem fold_ne : ∀ (xs : Row) (t : List Row), (∀ r ∈ t, r ≠ []) → ∀ r ∈ xs.foldl putS t, r ≠ []
  | [], t, h => h
  | x :: xs, t, h => fold_ne xs (putS t x) (putS_ne h x)
theorem rooms_ne (xs : Row) : ∀ r ∈ roomsM xs, r ≠ [] := fold_ne xs [] fun _ h => absurd h (by simp)
theorem flat_len {t : List Row} : ∀ {r : Row}, r ∈ t → r.length ≤ t.flatten.length := by
  intro r hr
  induction t with
  | nil => cases hr
  | cons x t ih =>
    rw [List.flatten_cons, List.length_append]
    rcases List.mem_cons.mp hr with rfl | hr
    · omega
    · have := ih hr; omega
theorem flat_ne {t : List Row} (h : ∀ r ∈ t, r ≠ []) : t.length ≤ t.flatten.length := by
  induction t with
  | nil => simp
  | cons x t ih =>
    rw [List.flatten_cons, List.length_append, List.length_cons]
    have := ih fun r hr => h r (List.mem_cons_of_mem _ hr)
    have := List.length_pos_iff.mpr (h x List.mem_cons_self)
    omega
theorem rooms_len (xs : Row) : (roomsM xs).length ≤ xs.length := by
  have := flat_ne (rooms_ne xs)
  rw [(rooms_perm xs).length_eq] at this
  exact this
theorem rooms_row {xs : Row} {r : Row} (h : r ∈ roomsM xs) : r.length ≤ xs.length := by
  have := flat_len h
  rw [(rooms_perm xs).length_eq] at this
  exact this
noncomputable def bR : SemS := (sSeq (sSet 3 (fC (.int 0))) (sSeq (sWhile cW bW) (sSeq (sIf (Z.tCmp dEq (fV 3) (fBi dLen (fCons (fV 1) fNil))) (sDrop (fMtT "list" dAppend (fV 1) (fCons (fBox (fItems fNil)) fNil))) sNext) (sSeq (sSet 4 (fIx (fV 1) (fV 3))) (sDrop (fMtT "list" dAppend (fV 4) (fCons (fV 2) fNil)))))))
theorem rm_ext1 (μ : Mem) (t : List Row) : (RM μ t ++ [Cell.lst []]).set μ.length (Cell.lst (hs (μ.length + 1) t.length ++ [D.obj (RM μ t).length])) = RM μ (t ++ [[]]) := by
  rw [rm_len]
  unfold RM
  rw [List.append_assoc, List.set_append_right _ _ (Nat.le_refl _), Nat.sub_self, List.cons_append, List.set_cons_zero, List.map_append, List.length_append, List.length_singleton, hs_succ]
  rfl
theorem rm_set {μ : Mem} {t : List Row} {q : Nat} (r : Row) (h : q < t.length) : (RM μ t).set (μ.length + 1 + q) (.lst (r.map dS)) = RM μ (t.set q r) := by
  unfold RM
  rw [List.set_append_right _ _ (by omega), show μ.length + 1 + q - μ.length = q + 1 by omega, List.set_cons_succ, List.length_set]
  congr 2
  apply List.ext_getElem?
  intro i
  rw [List.getElem?_map]
  by_cases c : q = i
  · subst c
    rw [List.getElem?_set_self (by simpa using h), List.getElem?_set_self h]; rfl
  · rw [List.getElem?_set_ne c, List.getElem?_set_ne c, List.getElem?_map]
theorem body_ok (μ : Mem) (t : List Row) (s : Stay) (x0 x3 x4 : Option D) (hne : ∀ r ∈ t, r ≠ []) (hl : t.length ≤ 1000) (hr : ∀ r ∈ t, r.length ≤ 1000) :
    bR [x0, some (.obj μ.length), some (dS s), x3, x4] (RM μ t) = .next [x0, some (.obj μ.length), some (dS s), some (.int (plc t s)), some (.obj (μ.length + 1 + plc t s))] (RM μ (putS t s)) := by
  have w : sWhile cW bW [x0, some (.obj μ.length), some (dS s), some (.int 0), x4] (RM μ t) = .next [x0, some (.obj μ.length), some (dS s), some (.int (plc t s)), x4] (RM μ t) := sWhile_of (whl μ t s x0 x4 hne (plc t s) 0 (by omega)) (by intro z; cases z)
  have a1 : ∀ x3 x4 : Option D, ∀ t2 : List Row, fMtT "list" dAppend (fV 1) (fCons (fBox (fItems fNil)) fNil) [x0, some (.obj μ.length), some (dS s), x3, x4] (RM μ t) = .ok .non (RM μ (t ++ [[]])) := fun x3 x4 t2 => by
    rw [mt_list (x := .obj μ.length) (μ1 := RM μ t) (ds := hs (μ.length + 1) t.length) (by simp only [sSeq, sIf, Z.tCmp, fV, Env.at, fBi, fBl, fCons, fNil, sNext, sRet, sRetN, fOp2, fOp1, fC, fIx_eq, fTup, fItems, fTree, fBox, fIf, fTru, fCmp, Z.fChain, Z.tChain, Z.tAnd, Z.tOr, Z.tNot, fNot, fAnd, fOr, sSet, sDrop, sAsg, fCall, bind_ok, bind_exc, s_ok, s_exc, ofP_some, then_next, then_ret, then_exc, aNm, aTup, iVal, wk_l, wk_t, wk_s, ix_tup, ix_lst, ix_sq, at0, at1, at2, at3, len_lst, len_sq, List.getElem?_cons_zero, List.getElem?_cons_succ, List.set_cons_zero, List.set_cons_succ, Option.getD_some, Option.getD_none, Option.map_some, if_true, if_false, reduceIte, List.map_cons, List.map_nil, List.nil_append, List.cons_append, List.append_nil, List.length_cons, List.length_nil, List.replicate, Nat.zero_add, Nat.add_zero, Nat.reduceAdd, Nat.reduceSub, startD, tru_bl, tru_lst, add_int, sub_int, neg_int, lt_int, gt_int, le_int, ge_int, int_int, max_int, min_int, list_l, list_s, list_t, Bool.not_true, Bool.not_false, decide_true, decide_false, Bool.false_eq_true, List.length_append, List.append_eq]) (lst_obj (rm0 μ t))]
    simp only [sSeq, sIf, Z.tCmp, fV, Env.at, fBi, fBl, fCons, fNil, sNext, sRet, sRetN, fOp2, fOp1, fC, fIx_eq, fTup, fItems, fTree, fBox, fIf, fTru, fCmp, Z.fChain, Z.tChain, Z.tAnd, Z.tOr, Z.tNot, fNot, fAnd, fOr, sSet, sDrop, sAsg, fCall, bind_ok, bind_exc, s_ok, s_exc, ofP_some, then_next, then_ret, then_exc, aNm, aTup, iVal, wk_l, wk_t, wk_s, ix_tup, ix_lst, ix_sq, at0, at1, at2, at3, len_lst, len_sq, List.getElem?_cons_zero, List.getElem?_cons_succ, List.set_cons_zero, List.set_cons_succ, Option.getD_some, Option.getD_none, Option.map_some, if_true, if_false, reduceIte, List.map_cons, List.map_nil, List.nil_append, List.cons_append, List.append_nil, List.length_cons, List.length_nil, List.replicate, Nat.zero_add, Nat.add_zero, Nat.reduceAdd, Nat.reduceSub, startD, tru_bl, tru_lst, add_int, sub_int, neg_int, lt_int, gt_int, le_int, ge_int, int_int, max_int, min_int, list_l, list_s, list_t, Bool.not_true, Bool.not_false, decide_true, decide_false, Bool.false_eq_true, List.length_append, List.append_eq, Nat.zero_le]
    rw [append_ok (ds := hs (μ.length + 1) t.length) _ (by rw [List.getElem?_append_left (by rw [rm_len]; omega)]; exact rm0 μ t) (by rw [hs_len]; exact hl), rm_ext1]
  have e1 : ∃ r, (ext t s)[plc t s]? = some r ∧ r.length ≤ 1000 ∧ (ext t s).getD (plc t s) [] = r := by
    refine ⟨_, List.getElem?_eq_getElem (ext_len t s), ?_, by simp [ext_len t s]⟩
    have hm := List.getElem_mem (ext_len t s)
    revert hm
    generalize (ext t s)[plc t s]'(ext_len t s) = r
    intro hm
    unfold ext at hm
    split at hm
    · rcases List.mem_append.mp hm with hm | hm
      · exact hr r hm
      · simp at hm; subst hm; simp
    · exact hr r hm
  obtain ⟨r, hr1, hr2, hr3⟩ := e1
  have a2 : fMtT "list" dAppend (fV 4) (fCons (fV 2) fNil) [x0, some (.obj μ.length), some (dS s), some (.int (plc t s)), some (.obj (μ.length + 1 + plc t s))] (RM μ (ext t s)) = .ok .non (RM μ (putS t s)) := by
    rw [mt_list (x := .obj (μ.length + 1 + plc t s)) (μ1 := RM μ (ext t s)) (ds := r.map dS) (by simp only [sSeq, sIf, Z.tCmp, fV, Env.at, fBi, fBl, fCons, fNil, sNext, sRet, sRetN, fOp2, fOp1, fC, fIx_eq, fTup, fItems, fTree, fBox, fIf, fTru, fCmp, Z.fChain, Z.tChain, Z.tAnd, Z.tOr, Z.tNot, fNot, fAnd, fOr, sSet, sDrop, sAsg, fCall, bind_ok, bind_exc, s_ok, s_exc, ofP_some, then_next, then_ret, then_exc, aNm, aTup, iVal, wk_l, wk_t, wk_s, ix_tup, ix_lst, ix_sq, at0, at1, at2, at3, len_lst, len_sq, List.getElem?_cons_zero, List.getElem?_cons_succ, List.set_cons_zero, List.set_cons_succ, Option.getD_some, Option.getD_none, Option.map_some, if_true, if_false, reduceIte, List.map_cons, List.map_nil, List.nil_append, List.cons_append, List.append_nil, List.length_cons, List.length_nil, List.replicate, Nat.zero_add, Nat.add_zero, Nat.reduceAdd, Nat.reduceSub, startD, tru_bl, tru_lst, add_int, sub_int, neg_int, lt_int, gt_int, le_int, ge_int, int_int, max_int, min_int, list_l, list_s, list_t, Bool.not_true, Bool.not_false, decide_true, decide_false, Bool.false_eq_true, List.length_append, List.append_eq]) (lst_obj (rmi hr1))]
    simp only [sSeq, sIf, Z.tCmp, fV, Env.at, fBi, fBl, fCons, fNil, sNext, sRet, sRetN, fOp2, fOp1, fC, fIx_eq, fTup, fItems, fTree, fBox, fIf, fTru, fCmp, Z.fChain, Z.tChain, Z.tAnd, Z.tOr, Z.tNot, fNot, fAnd, fOr, sSet, sDrop, sAsg, fCall, bind_ok, bind_exc, s_ok, s_exc, ofP_some, then_next, then_ret, then_exc, aNm, aTup, iVal, wk_l, wk_t, wk_s, ix_tup, ix_lst, ix_sq, at0, at1, at2, at3, len_lst, len_sq, List.getElem?_cons_zero, List.getElem?_cons_succ, List.set_cons_zero, List.set_cons_succ, Option.getD_some, Option.getD_none, Option.map_some, if_true, if_false, reduceIte, List.map_cons, List.map_nil, List.nil_append, List.cons_append, List.append_nil, List.length_cons, List.length_nil, List.replicate, Nat.zero_add, Nat.add_zero, Nat.reduceAdd, Nat.reduceSub, startD, tru_bl, tru_lst, add_int, sub_int, neg_int, lt_int, gt_int, le_int, ge_int, int_int, max_int, min_int, list_l, list_s, list_t, Bool.not_true, Bool.not_false, decide_true, decide_false, Bool.false_eq_true, List.length_append, List.append_eq]
    rw [append_ok (ds := r.map dS) _ (rmi hr1) (by simpa using hr2)]
    have : r.map dS ++ [dS s] = (r ++ [s]).map dS := by simp
    rw [this, rm_set _ (ext_len t s)]
    unfold putS
    rw [hr3]
  have ix : dIx (.obj μ.length) (.int (plc t s)) (RM μ (ext t s)) = .ok (.obj (μ.length + 1 + plc t s)) (RM μ (ext t s)) := by
    rw [ix_obj _ (rm0 μ (ext t s)), atI_nat (hs_at (ext_len t s))]; rfl
  unfold bR
  by_cases c : plc t s = t.length
  · have e : ext t s = t ++ [[]] := by unfold ext; rw [if_pos c]
    have c' : (plc t s : Int) = t.length := by omega
    rw [e] at a2 ix
    have a3 := a1 (some (.int (plc t s))) x4 t
    simp only [sSeq, sIf, Z.tCmp, fV, Env.at, fBi, fBl, fCons, fNil, sNext, sRet, sRetN, fOp2, fOp1, fC, fIx_eq, fTup, fItems, fTree, fBox, fIf, fTru, fCmp, Z.fChain, Z.tChain, Z.tAnd, Z.tOr, Z.tNot, fNot, fAnd, fOr, sSet, sDrop, sAsg, fCall, bind_ok, bind_exc, s_ok, s_exc, ofP_some, then_next, then_ret, then_exc, aNm, aTup, iVal, wk_l, wk_t, wk_s, ix_tup, ix_lst, ix_sq, at0, at1, at2, at3, len_lst, len_sq, List.getElem?_cons_zero, List.getElem?_cons_succ, List.set_cons_zero, List.set_cons_succ, Option.getD_some, Option.getD_none, Option.map_some, if_true, if_false, reduceIte, List.map_cons, List.map_nil, List.nil_append, List.cons_append, List.append_nil, List.length_cons, List.length_nil, List.replicate, Nat.zero_add, Nat.add_zero, Nat.reduceAdd, Nat.reduceSub, startD, tru_bl, tru_lst, add_int, sub_int, neg_int, lt_int, gt_int, le_int, ge_int, int_int, max_int, min_int, list_l, list_s, list_t, Bool.not_true, Bool.not_false, decide_true, decide_false, Bool.false_eq_true, List.length_append, List.append_eq, w, len_obj (rm0 μ t), hs_len, dEq_int, decide_eq_true c', a3, ix, a2]
  · have e : ext t s = t := by unfold ext; rw [if_neg c]
    have c' : ¬ (plc t s : Int) = t.length := by omega
    rw [e] at a2 ix
    simp only [sSeq, sIf, Z.tCmp, fV, Env.at, fBi, fBl, fCons, fNil, sNext, sRet, sRetN, fOp2, fOp1, fC, fIx_eq, fTup, fItems, fTree, fBox, fIf, fTru, fCmp, Z.fChain, Z.tChain, Z.tAnd, Z.tOr, Z.tNot, fNot, fAnd, fOr, sSet, sDrop, sAsg, fCall, bind_ok, bind_exc, s_ok, s_exc, ofP_some, then_next, then_ret, then_exc, aNm, aTup, iVal, wk_l, wk_t, wk_s, ix_tup, ix_lst, ix_sq, at0, at1, at2, at3, len_lst, len_sq, List.getElem?_cons_zero, List.getElem?_cons_succ, List.set_cons_zero, List.set_cons_succ, Option.getD_some, Option.getD_none, Option.map_some, if_true, if_false, reduceIte, List.map_cons, List.map_nil, List.nil_append, List.cons_append, List.append_nil, List.length_cons, List.length_nil, List.replicate, Nat.zero_add, Nat.add_zero, Nat.reduceAdd, Nat.reduceSub, startD, tru_bl, tru_lst, add_int, sub_int, neg_int, lt_int, gt_int, le_int, ge_int, int_int, max_int, min_int, list_l, list_s, list_t, Bool.not_true, Bool.not_false, decide_true, decide_false, Bool.false_eq_true, List.length_append, List.append_eq, w, len_obj (rm0 μ t), hs_len, dEq_int, decide_eq_false c', ix, a2]
/-! the cells become trees -/
theorem frz_row (μ' : Mem) {n : Nat} {r : Row} (h : μ'[n]? = some (lc r)) : frzN 1 (.obj n) μ' = some (μ'.set n (fc r)) := by
  have k : ∀ (r : Row) (μ' : Mem), foldM (frzN 0) (r.map dS) μ' = some μ' := fun r μ' => by
    induction r with
    | nil => rfl
    | cons x r ih => exact ih
  have m : (r.map dS).map (resT μ') = r.map dS := by rw [List.map_map]; rfl
  unfold frzN
  simp only [h]
  show (match foldM (frzN 0) (r.map dS) μ' with | some μ' => _ | none => none) = _
  rw [k]
  simp only [h, Option.bind_some]
  show (match Cell.res μ' (.lst (r.map dS)) with | some t => some (μ'.set n (.fz t)) | none => none) = _
  simp only [Cell.res, m]
  rfl
theorem frz_fold : ∀ (t : List Row) (pre : Mem), foldM (frzN 1) (hs pre.length t.length) (pre ++ t.map lc) = some (pre ++ t.map fc)
  | [], pre => rfl
  | r :: t, pre => by
    have e : hs pre.length (r :: t).length = .obj pre.length :: hs (pre ++ [fc r]).length t.length := by
      unfold hs
      rw [List.length_cons, List.range_succ_eq_map, List.map_cons, List.map_map, List.length_append, List.length_singleton]
      congr 1
      apply List.map_congr_left
      intro i _
      show D.obj (pre.length + (i + 1)) = D.obj (pre.length + 1 + i)
      congr 1; omega
    rw [e]
    unfold foldM
    have h0 : (pre ++ (r :: t).map lc)[pre.length]? = some (lc r) := by simp
    rw [frz_row _ h0]
    have e2 : (pre ++ (r :: t).map lc).set pre.length (fc r) = (pre ++ [fc r]) ++ t.map lc := by simp
    simp only [e2]
    rw [frz_fold t (pre ++ [fc r])]
    simp
theorem frz_rooms (μ : Mem) (t : List Row) : frzN 2 (.obj μ.length) (RM μ t) = some (μ ++ (.fz (dT t) :: t.map fc)) := by
  have hc := rm0 μ t
  have f := frz_fold t (μ ++ [.lst (hs (μ.length + 1) t.length)])
  have e1 : (μ ++ [Cell.lst (hs (μ.length + 1) t.length)]).length = μ.length + 1 := by simp
  rw [e1] at f
  have e2 : μ ++ [Cell.lst (hs (μ.length + 1) t.length)] ++ t.map lc = RM μ t := by simp [RM]
  rw [e2] at f
  unfold frzN
  simp only [hc, Cell.kids, f]
  have g0 : (μ ++ [Cell.lst (hs (μ.length + 1) t.length)] ++ t.map fc)[μ.length]? = some (.lst (hs (μ.length + 1) t.length)) := by simp
  simp only [g0, Option.bind_some]
  have r0 : (hs (μ.length + 1) t.length).map (resT (μ ++ [Cell.lst (hs (μ.length + 1) t.length)] ++ t.map fc)) = t.map dR := by
    apply List.ext_getElem?
    intro i
    rw [List.getElem?_map, List.getElem?_map]
    by_cases c : i < t.length
    · rw [hs_at c, List.getElem?_eq_getElem c]
      have : (μ ++ [Cell.lst (hs (μ.length + 1) t.length)] ++ t.map fc)[μ.length + 1 + i]? = some (fc t[i]) := by
        rw [List.getElem?_append_right (by simp), show μ.length + 1 + i - (μ ++ [Cell.lst (hs (μ.length + 1) t.length)]).length = i by simp, List.getElem?_map, List.getElem?_eq_getElem c]; rfl
      show some (resT _ (.obj (μ.length + 1 + i))) = some (dR t[i])
      simp only [resT, this]
      rfl
    · rw [List.getElem?_eq_none (by rw [hs_len]; omega), List.getElem?_eq_none (by omega)]; rfl
  simp only [Cell.res, r0]
  simp [dT]
theorem rooms_ok (xs : Row) (hl : xs.length ≤ 1000) (μ : Mem) (hb : μ.all (Cell.below μ.length) = true) : S_rooms [dR xs] μ = .ok (dT (roomsM (sortS xs))) μ := by
  obtain ⟨ρ', μ', h1, x2, x3, x4, h2, h3⟩ := forL_inv (gd := none) (a := aNm 2) (b := bR) dS (fun rest ρ μ' => ∃ (x2 x3 x4 : Option D), ρ = [some (dR xs), some (.obj μ.length), x2, x3, x4] ∧ ∃ d : Row, sortS xs = d ++ rest ∧ μ' = RM μ (roomsM d)) (sortS xs)
    (ρ := [some (dR xs), some (.obj μ.length), none, none, none]) (μ := RM μ []) ⟨_, _, _, rfl, [], rfl, rfl⟩ fun s rest ρ μ' ⟨x2, x3, x4, e1, d, e2, e3⟩ => by
      subst e1; subst e3
      refine ⟨[some (dR xs), some (.obj μ.length), some (dS s), x3, x4], rfl, _, _, body_ok μ (roomsM d) s _ x3 x4 (rooms_ne d) ?_ ?_, trivial, _, _, _, rfl, d ++ [s], by rw [e2]; simp, ?_⟩
      · have := rooms_len d
        have l2 := congrArg List.length e2
        rw [(sortS_perm xs).length_eq, List.length_append] at l2
        omega
      · intro r hr
        have := rooms_row hr
        have l2 := congrArg List.length e2
        rw [(sortS_perm xs).length_eq, List.length_append] at l2
        omega
      · unfold roomsM
        rw [List.foldl_append]; rfl
  obtain ⟨d, e2, e3⟩ := h3
  rw [List.append_nil] at e2
  subst e2; subst h2; subst e3
  have e0 : RM μ [] = μ ++ [Cell.lst []] := rfl
  have hb0 : b_rooms = sSeq (sSet 1 (fBox (fItems fNil))) (sSeq (sFor (iVal (fTree (fBl dSort (fCons (fV 0) fNil)))) (aNm 2) bR) (sRet (fFzN 2 1))) := rfl
  simp only [S_rooms, dfn, hb0, sSeq, sIf, Z.tCmp, fV, Env.at, fBi, fBl, fCons, fNil, sNext, sRet, sRetN, fOp2, fOp1, fC, fIx_eq, fTup, fItems, fTree, fBox, fIf, fTru, fCmp, Z.fChain, Z.tChain, Z.tAnd, Z.tOr, Z.tNot, fNot, fAnd, fOr, sSet, sDrop, sAsg, fCall, bind_ok, bind_exc, s_ok, s_exc, ofP_some, then_next, then_ret, then_exc, aNm, aTup, iVal, wk_l, wk_t, wk_s, ix_tup, ix_lst, ix_sq, at0, at1, at2, at3, len_lst, len_sq, List.getElem?_cons_zero, List.getElem?_cons_succ, List.set_cons_zero, List.set_cons_succ, Option.getD_some, Option.getD_none, Option.map_some, if_true, if_false, reduceIte, List.map_cons, List.map_nil, List.nil_append, List.cons_append, List.append_nil, List.length_cons, List.length_nil, List.replicate, Nat.zero_add, Nat.add_zero, Nat.reduceAdd, Nat.reduceSub, startD, tru_bl, tru_lst, add_int, sub_int, neg_int, lt_int, gt_int, le_int, ge_int, int_int, max_int, min_int, list_l, list_s, list_t, Bool.not_true, Bool.not_false, decide_true, decide_false, Bool.false_eq_true, List.length_append, List.append_eq, Nat.zero_le, sFor, sort_ok]
  rw [← e0, h1]
  simp only [sSeq, sIf, Z.tCmp, fV, Env.at, fBi, fBl, fCons, fNil, sNext, sRet, sRetN, fOp2, fOp1, fC, fIx_eq, fTup, fItems, fTree, fBox, fIf, fTru, fCmp, Z.fChain, Z.tChain, Z.tAnd, Z.tOr, Z.tNot, fNot, fAnd, fOr, sSet, sDrop, sAsg, fCall, bind_ok, bind_exc, s_ok, s_exc, ofP_some, then_next, then_ret, then_exc, aNm, aTup, iVal, wk_l, wk_t, wk_s, ix_tup, ix_lst, ix_sq, at0, at1, at2, at3, len_lst, len_sq, List.getElem?_cons_zero, List.getElem?_cons_succ, List.set_cons_zero, List.set_cons_succ, Option.getD_some, Option.getD_none, Option.map_some, if_true, if_false, reduceIte, List.map_cons, List.map_nil, List.nil_append, List.cons_append, List.append_nil, List.length_cons, List.length_nil, List.replicate, Nat.zero_add, Nat.add_zero, Nat.reduceAdd, Nat.reduceSub, startD, tru_bl, tru_lst, add_int, sub_int, neg_int, lt_int, gt_int, le_int, ge_int, int_int, max_int, min_int, list_l, list_s, list_t, Bool.not_true, Bool.not_false, decide_true, decide_false, Bool.false_eq_true, List.length_append, List.append_eq, sRet, fFzN, frz_rooms]
  have e5 : resT (μ ++ Cell.fz (dT (roomsM (sortS xs))) :: (roomsM (sortS xs)).map fc) (.obj μ.length) = dT (roomsM (sortS xs)) := by simp [resT]
  rw [e5]
  exact clean_app _ hb (lo_T _ _)
end K25

namespace K25
open PySem PySem.Spec Z
/-! ### rows in which nobody meets another -/
def Apart (x y : Stay) : Prop := x.b < y.a ∨ y.b < x.a
structure OkRow (r : Row) : Prop where
  le : ∀ x ∈ r, x.a ≤ x.b
  ap : r.Pairwise Apart
theorem Apart.symm {x y : Stay} (h : Apart x y) : Apart y x := h.elim .inr .inl
theorem OkRow.perm {r r' : Row} (h : OkRow r) (p : r'.Perm r) : OkRow r' := ⟨fun x hx => h.le x (p.mem_iff.mp hx), (p.pairwise_iff (fun {x y} => Apart.symm)).mpr h.ap⟩
theorem ord_ok {r : Row} (h : OkRow r) {i : Nat} {x y : Stay} (hx : (sortS r)[i]? = some x) (hy : (sortS r)[i + 1]? = some y) : x.b < y.a := by
  have h' := h.perm (sortS_perm r)
  obtain ⟨i1, e1⟩ := List.getElem?_eq_some_iff.mp hx
  obtain ⟨i2, e2⟩ := List.getElem?_eq_some_iff.mp hy
  have a1 := List.pairwise_iff_getElem.mp h'.ap i (i + 1) i1 i2 (by omega)
  have a2 := List.pairwise_iff_getElem.mp (sortS_sorted r) i (i + 1) i1 i2 (by omega)
  rw [e1, e2] at a1 a2
  have a3 := leS_a a2
  have a4 := h'.le y (by rw [← e2]; exact List.getElem_mem i2)
  rcases a1 with a1 | a1
  · exact a1
  · omega
/-! rooms put nobody upon another -/
structure Fwd (r : Row) : Prop where
  le : ∀ x ∈ r, x.a ≤ x.b
  ap : r.Pairwise fun x y => x.b < y.a
theorem Fwd.last {r : Row} (h : Fwd r) : ∀ x ∈ r, x.b ≤ lastB r := by
  intro x hx
  obtain ⟨z, hz⟩ := Option.isSome_iff_exists.mp (show r.getLast?.isSome by simp [List.getLast?_isSome]; intro e; subst e; cases hx)
  have e1 : lastB r = z.b := by simp [lastB, hz]
  rw [e1]
  obtain ⟨i, hi, e⟩ := List.getElem_of_mem hx
  rw [List.getLast?_eq_getElem?] at hz
  obtain ⟨hz1, hz2⟩ := List.getElem?_eq_some_iff.mp hz
  by_cases c : i = r.length - 1
  · subst c; rw [e] at hz2; subst hz2; omega
  · have a := List.pairwise_iff_getElem.mp h.ap i (r.length - 1) hi hz1 (by omega)
    rw [e, hz2] at a
    have := h.le z (by rw [← hz2]; exact List.getElem_mem hz1)
    omega
theorem Fwd.snoc {r : Row} {s : Stay} (h : Fwd r) (hs : s.a ≤ s.b) (hl : r = [] ∨ lastB r < s.a) : Fwd (r ++ [s]) := by
  refine ⟨fun x hx => ?_, ?_⟩
  · rcases List.mem_append.mp hx with hx | hx
    · exact h.le x hx
    · simp at hx; subst hx; exact hs
  · rw [List.pairwise_append]
    refine ⟨h.ap, by simp, fun x hx y hy => ?_⟩
    simp at hy; subst hy
    rcases hl with hl | hl
    · subst hl; cases hx
    · have := h.last x hx; omega
theorem Fwd.ok {r : Row} (h : Fwd r) : OkRow r := ⟨h.le, h.ap.imp fun h => .inl h⟩
theorem putS_fwd {t : List Row} (h : ∀ r ∈ t, Fwd r) {s : Stay} (hs : s.a ≤ s.b) : ∀ r ∈ putS t s, Fwd r := by
  have hx : ∀ r ∈ ext t s, Fwd r := fun r hr => by
    unfold ext at hr
    split at hr
    · rcases List.mem_append.mp hr with hr | hr
      · exact h r hr
      · simp at hr; subst hr; exact ⟨fun _ h => (by cases h), List.Pairwise.nil⟩
    · exact h r hr
  intro r hr
  unfold putS at hr
  obtain ⟨i, hi, e⟩ := List.getElem_of_mem hr
  by_cases c : plc t s = i
  · subst c
    rw [List.getElem_set_self] at e
    subst e
    have hl := ext_len t s
    have e2 : (ext t s).getD (plc t s) [] = (ext t s)[plc t s] := by simp [hl]
    rw [e2]
    refine (hx _ (List.getElem_mem hl)).snoc hs ?_
    unfold ext
    by_cases c : plc t s = t.length
    · left; simp [c]
    · right
      have c2 : plc t s < t.length := by have := plc_le t s; omega
      simp only [c, if_false]
      exact plc_yes (List.getElem?_eq_getElem c2)
  · rw [List.getElem_set_ne c] at e
    subst e
    exact hx _ (List.getElem_mem _)
theorem fold_fwd : ∀ (xs : Row) (t : List Row), (∀ x ∈ xs, x.a ≤ x.b) → (∀ r ∈ t, Fwd r) → ∀ r ∈ xs.foldl putS t, Fwd r
  | [], _, _, h => h
  | x :: xs, t, hx, h => fold_fwd xs (putS t x) (fun y hy => hx y (List.mem_cons_of_mem _ hy)) (putS_fwd h (hx x List.mem_cons_self))
theorem rooms_fwd {xs : Row} (h : ∀ x ∈ xs, x.a ≤ x.b) : ∀ r ∈ roomsM xs, OkRow r := fun r hr => (fold_fwd xs [] h (fun _ z => absurd z (by simp)) r hr).ok
/-! ### is_housed -/
noncomputable def bH : SemS := (sSeq (sSet 4 (fTree (fBl dSort (fCons (fV 3) fNil)))) (sSeq (sFor (iRg2 (fC (.int 1)) (fBi dLen (fCons (fV 4) fNil))) (aNm 5) (sIf (Z.tCmp dLe (fIx (fIx (fV 4) (fV 5)) (fC (.int 0))) (fIx (fIx (fV 4) (fOp2 dSub (fV 5) (fC (.int 1)))) (fC (.int 1)))) (sRet (fC (.bl false))) sNext)) (sSet 2 (fTree (fCat (fV 2) (fTree (fBl dList (fCons (fV 3) fNil))))))))
theorem cat_ok {a b : Z.Sem} {ρ : Z.Env} {μ : Mem} {xs ys : List D} (ha : a ρ μ = .ok (.lst xs) μ) (hb : b ρ μ = .ok (.lst ys) μ) (hl : xs.length + ys.length ≤ 10000) : fCat a b ρ μ = .ok (xs ++ ys) μ := by
  unfold fCat
  rw [ha, bind_ok, hb, bind_ok]
  show (if _ then _ else _) = _
  rw [if_pos (Nat.le_trans hl (by rw [sizeLine_eq]; decide))]
theorem bodyH (st : D) (t : List Row) (done r : Row) (x4 x5 : Option D) (h : OkRow r) (hl : r.length ≤ 1000) (hd : done.length ≤ 5000) (μ : Mem) :
    ∃ x5', bH [some st, some (dT t), some (dR done), some (dR r), x4, x5] μ = .next [some st, some (dT t), some (dR (done ++ r)), some (dR r), some (dR (sortS r)), x5'] μ := by
  have hlen : (sortS r).length = r.length := (sortS_perm r).length_eq
  obtain ⟨ρ', μ', h1, x5', h2, h3⟩ := forL_inv (gd := none) (a := aNm 5) (b := sIf (Z.tCmp dLe (fIx (fIx (fV 4) (fV 5)) (fC (.int 0))) (fIx (fIx (fV 4) (fOp2 dSub (fV 5) (fC (.int 1)))) (fC (.int 1)))) (sRet (fC (.bl false))) sNext)
    (fun i : Nat => .int (1 + (i : Int))) (fun rest ρ μ' => ∃ x5, ρ = [some st, some (dT t), some (dR done), some (dR r), some (dR (sortS r)), x5] ∧ μ' = μ ∧ ∀ i ∈ rest, i + 1 < r.length) (List.range (r.length - 1)) (ρ := [some st, some (dT t), some (dR done), some (dR r), some (dR (sortS r)), x5]) (μ := μ)
    ⟨x5, rfl, rfl, fun i hi => by have := List.mem_range.mp hi; omega⟩ fun i rest ρ μ' ⟨x5, e1, e2, e3⟩ => by
      subst e1; subst e2
      have hi := e3 i List.mem_cons_self
      have g1 : (sortS r)[i]? = some (sortS r)[i] := List.getElem?_eq_getElem (by omega)
      have g2 : (sortS r)[i + 1]? = some (sortS r)[i + 1] := List.getElem?_eq_getElem (by omega)
      have lt := ord_ok h g1 g2
      have c1 : (1 + (i : Int)) = ((i + 1 : Nat) : Int) := by omega
      have c2 : ((1 + (i : Int)) - 1) = (i : Int) := by omega
      have k1 : dIx (dR (sortS r)) (.int (1 + (i : Int))) μ' = .ok (dS (sortS r)[i + 1]) μ' := by
        show dIx (.lst _) _ _ = _
        rw [c1, ix_lst, atI_nat (x := dS (sortS r)[i + 1]) (by rw [List.getElem?_map, g2]; rfl)]; rfl
      have k2 : dIx (dR (sortS r)) (.int (i : Int)) μ' = .ok (dS (sortS r)[i]) μ' := by
        show dIx (.lst _) _ _ = _
        rw [ix_lst, atI_nat (x := dS (sortS r)[i]) (by rw [List.getElem?_map, g1]; rfl)]; rfl
      have lt' : ¬ (sortS r)[i + 1].a ≤ (sortS r)[i].b := by omega
      refine ⟨_, rfl, [some st, some (dT t), some (dR done), some (dR r), some (dR (sortS r)), some (.int (1 + (i : Int)))], μ', ?_, trivial, _, rfl, rfl, fun j hj => e3 j (List.mem_cons_of_mem _ hj)⟩
      simp only [sSeq, sIf, Z.tCmp, fV, Env.at, fBi, fBl, fCons, fNil, sNext, sRet, sRetN, fOp2, fOp1, fC, fIx_eq, fTup, fItems, fTree, fBox, fIf, fTru, fCmp, Z.fChain, Z.tChain, Z.tAnd, Z.tOr, Z.tNot, fNot, fAnd, fOr, sSet, sDrop, sAsg, fCall, bind_ok, bind_exc, s_ok, s_exc, ofP_some, then_next, then_ret, then_exc, aNm, aTup, iVal, wk_l, wk_t, wk_s, ix_tup, ix_lst, ix_sq, at0, at1, at2, at3, len_lst, len_sq, List.getElem?_cons_zero, List.getElem?_cons_succ, List.set_cons_zero, List.set_cons_succ, Option.getD_some, Option.getD_none, Option.map_some, if_true, if_false, reduceIte, List.map_cons, List.map_nil, List.nil_append, List.cons_append, List.append_nil, List.length_cons, List.length_nil, List.replicate, Nat.zero_add, Nat.add_zero, Nat.reduceAdd, Nat.reduceSub, startD, tru_bl, tru_lst, add_int, sub_int, neg_int, lt_int, gt_int, le_int, ge_int, int_int, max_int, min_int, list_l, list_s, list_t, Bool.not_true, Bool.not_false, decide_true, decide_false, Bool.false_eq_true, List.length_append, List.append_eq, k1, c2, k2, ixS0, ixS1, lt']
  subst h2
  refine ⟨x5', ?_⟩
  have hrg := rg2_ok (a := fBi dLen (fCons (fV 4) fNil)) (ρ := [some st, some (dT t), some (dR done), some (dR r), some (dR (sortS r)), x5]) (μ := μ) (μ' := μ) (n := r.length) (by simp only [sSeq, sIf, Z.tCmp, fV, Env.at, fBi, fBl, fCons, fNil, sNext, sRet, sRetN, fOp2, fOp1, fC, fIx_eq, fTup, fItems, fTree, fBox, fIf, fTru, fCmp, Z.fChain, Z.tChain, Z.tAnd, Z.tOr, Z.tNot, fNot, fAnd, fOr, sSet, sDrop, sAsg, fCall, bind_ok, bind_exc, s_ok, s_exc, ofP_some, then_next, then_ret, then_exc, aNm, aTup, iVal, wk_l, wk_t, wk_s, ix_tup, ix_lst, ix_sq, at0, at1, at2, at3, len_lst, len_sq, List.getElem?_cons_zero, List.getElem?_cons_succ, List.set_cons_zero, List.set_cons_succ, Option.getD_some, Option.getD_none, Option.map_some, if_true, if_false, reduceIte, List.map_cons, List.map_nil, List.nil_append, List.cons_append, List.append_nil, List.length_cons, List.length_nil, List.replicate, Nat.zero_add, Nat.add_zero, Nat.reduceAdd, Nat.reduceSub, startD, tru_bl, tru_lst, add_int, sub_int, neg_int, lt_int, gt_int, le_int, ge_int, int_int, max_int, min_int, list_l, list_s, list_t, Bool.not_true, Bool.not_false, decide_true, decide_false, Bool.false_eq_true, List.length_append, List.append_eq, lenR, hlen]) (by omega)
  have hcat := cat_ok (a := fV 2) (b := fTree (fBl dList (fCons (fV 3) fNil))) (ρ := [some st, some (dT t), some (dR done), some (dR r), some (dR (sortS r)), x5']) (μ := μ) (xs := done.map dS) (ys := r.map dS) (by simp only [sSeq, sIf, Z.tCmp, fV, Env.at, fBi, fBl, fCons, fNil, sNext, sRet, sRetN, fOp2, fOp1, fC, fIx_eq, fTup, fItems, fTree, fBox, fIf, fTru, fCmp, Z.fChain, Z.tChain, Z.tAnd, Z.tOr, Z.tNot, fNot, fAnd, fOr, sSet, sDrop, sAsg, fCall, bind_ok, bind_exc, s_ok, s_exc, ofP_some, then_next, then_ret, then_exc, aNm, aTup, iVal, wk_l, wk_t, wk_s, ix_tup, ix_lst, ix_sq, at0, at1, at2, at3, len_lst, len_sq, List.getElem?_cons_zero, List.getElem?_cons_succ, List.set_cons_zero, List.set_cons_succ, Option.getD_some, Option.getD_none, Option.map_some, if_true, if_false, reduceIte, List.map_cons, List.map_nil, List.nil_append, List.cons_append, List.append_nil, List.length_cons, List.length_nil, List.replicate, Nat.zero_add, Nat.add_zero, Nat.reduceAdd, Nat.reduceSub, startD, tru_bl, tru_lst, add_int, sub_int, neg_int, lt_int, gt_int, le_int, ge_int, int_int, max_int, min_int, list_l, list_s, list_t, Bool.not_true, Bool.not_false, decide_true, decide_false, Bool.false_eq_true, List.length_append, List.append_eq]; rfl)
    (by simp only [sSeq, sIf, Z.tCmp, fV, Env.at, fBi, fBl, fCons, fNil, sNext, sRet, sRetN, fOp2, fOp1, fC, fIx_eq, fTup, fItems, fTree, fBox, fIf, fTru, fCmp, Z.fChain, Z.tChain, Z.tAnd, Z.tOr, Z.tNot, fNot, fAnd, fOr, sSet, sDrop, sAsg, fCall, bind_ok, bind_exc, s_ok, s_exc, ofP_some, then_next, then_ret, then_exc, aNm, aTup, iVal, wk_l, wk_t, wk_s, ix_tup, ix_lst, ix_sq, at0, at1, at2, at3, len_lst, len_sq, List.getElem?_cons_zero, List.getElem?_cons_succ, List.set_cons_zero, List.set_cons_succ, Option.getD_some, Option.getD_none, Option.map_some, if_true, if_false, reduceIte, List.map_cons, List.map_nil, List.nil_append, List.cons_append, List.append_nil, List.length_cons, List.length_nil, List.replicate, Nat.zero_add, Nat.add_zero, Nat.reduceAdd, Nat.reduceSub, startD, tru_bl, tru_lst, add_int, sub_int, neg_int, lt_int, gt_int, le_int, ge_int, int_int, max_int, min_int, list_l, list_s, list_t, Bool.not_true, Bool.not_false, decide_true, decide_false, Bool.false_eq_true, List.length_append, List.append_eq, dR]) (by simp; omega)
  have ed : dR (done ++ r) = .lst (done.map dS ++ r.map dS) := by simp [dR]
  have ef : dR (sortS r) = .lst ((sortS r).map dS) := rfl
  have s1 : fTree (fBl dSort (fCons (fV 3) fNil)) [some st, some (dT t), some (dR done), some (dR r), x4, x5] μ = .ok (dR (sortS r)) μ := tree_eq ((bl_eq (cons1_eq rfl)).trans (sort_ok r μ))
  have s2 : fTree (fCat (fV 2) (fTree (fBl dList (fCons (fV 3) fNil)))) [some st, some (dT t), some (dR done), some (dR r), some (dR (sortS r)), x5'] μ = .ok (dR (done ++ r)) μ := by
    rw [ed]; exact tree_eq hcat
  unfold bH
  obtain ⟨rfl, _⟩ := h3
  exact (seq_nx (set_eq s1)).trans ((seq_nx ((for_eq hrg).trans h1)).trans (set_eq s2))
theorem housed_ok (st : Row) (t : List Row) (h : ∀ r ∈ t, OkRow r) (p : t.flatten.Perm st) (hl : st.length ≤ 1000) (μ : Mem) : S_is_housed [dR st, dT t] μ = .ok (.bl true) μ := by
  have hr : ∀ r ∈ t, r.length ≤ 1000 := fun r hr => by
    have := flat_len hr
    rw [p.length_eq] at this
    omega
  obtain ⟨ρ', μ', h1, x3, x4, x5, d, h2, h3, h4⟩ := forL_inv (gd := none) (a := aNm 3) (b := bH) dR (fun rest ρ μ' => ∃ (x3 x4 x5 : Option D) (d : List Row), ρ = [some (dR st), some (dT t), some (dR d.flatten), x3, x4, x5] ∧ t = d ++ rest ∧ μ' = μ) t
    (ρ := [some (dR st), some (dT t), some (dR []), none, none, none]) (μ := μ) ⟨none, none, none, [], rfl, rfl, rfl⟩ fun r rest ρ μ' ⟨x3, x4, x5, d, e1, e2, e3⟩ => by
      subst e1; subst e3
      have hm : r ∈ t := by rw [e2]; simp
      have hdl : d.flatten.length ≤ 5000 := by
        have l := p.length_eq
        rw [e2, List.flatten_append, List.length_append] at l
        omega
      obtain ⟨x5', hb⟩ := bodyH (dR st) t d.flatten r x4 x5 (h r hm) (hr r hm) hdl μ'
      refine ⟨[some (dR st), some (dT t), some (dR d.flatten), some (dR r), x4, x5], rfl, _, _, hb, trivial, some (dR r), some (dR (sortS r)), x5', d ++ [r], by simp, by rw [e2]; simp, rfl⟩
  rw [List.append_nil] at h3
  subst h3; subst h2; subst h4
  have hb0 : b_is_housed = sSeq (sSet 2 (fTree (fItems fNil))) (sSeq (sFor (iVal (fV 1)) (aNm 3) bH) (sRet (fCmp dEq (fTree (fBl dSort (fCons (fV 2) fNil))) (fTree (fBl dSort (fCons (fV 0) fNil)))))) := rfl
  have e0 : dR [] = .lst [] := rfl
  rw [e0] at h1
  have es : ∀ r : Row, D.lst ((sortS r).map dS) = dR (sortS r) := fun r => rfl
  simp only [S_is_housed, dfn, hb0, sSeq, sIf, Z.tCmp, fV, Env.at, fBi, fBl, fCons, fNil, sNext, sRet, sRetN, fOp2, fOp1, fC, fIx_eq, fTup, fItems, fTree, fBox, fIf, fTru, fCmp, Z.fChain, Z.tChain, Z.tAnd, Z.tOr, Z.tNot, fNot, fAnd, fOr, sSet, sDrop, sAsg, fCall, bind_ok, bind_exc, s_ok, s_exc, ofP_some, then_next, then_ret, then_exc, aNm, aTup, iVal, wk_l, wk_t, wk_s, ix_tup, ix_lst, ix_sq, at0, at1, at2, at3, len_lst, len_sq, List.getElem?_cons_zero, List.getElem?_cons_succ, List.set_cons_zero, List.set_cons_succ, Option.getD_some, Option.getD_none, Option.map_some, if_true, if_false, reduceIte, List.map_cons, List.map_nil, List.nil_append, List.cons_append, List.append_nil, List.length_cons, List.length_nil, List.replicate, Nat.zero_add, Nat.add_zero, Nat.reduceAdd, Nat.reduceSub, startD, tru_bl, tru_lst, add_int, sub_int, neg_int, lt_int, gt_int, le_int, ge_int, int_int, max_int, min_int, list_l, list_s, list_t, Bool.not_true, Bool.not_false, decide_true, decide_false, Bool.false_eq_true, List.length_append, List.append_eq, Nat.zero_le, sFor, wkT, h1, sRet, sort_ok, es, sortS_eq p]
  rw [dEq_refl rfl (fit_le (fit_R _) (by decide))]
  simp only [sSeq, sIf, Z.tCmp, fV, Env.at, fBi, fBl, fCons, fNil, sNext, sRet, sRetN, fOp2, fOp1, fC, fIx_eq, fTup, fItems, fTree, fBox, fIf, fTru, fCmp, Z.fChain, Z.tChain, Z.tAnd, Z.tOr, Z.tNot, fNot, fAnd, fOr, sSet, sDrop, sAsg, fCall, bind_ok, bind_exc, s_ok, s_exc, ofP_some, then_next, then_ret, then_exc, aNm, aTup, iVal, wk_l, wk_t, wk_s, ix_tup, ix_lst, ix_sq, at0, at1, at2, at3, len_lst, len_sq, List.getElem?_cons_zero, List.getElem?_cons_succ, List.set_cons_zero, List.set_cons_succ, Option.getD_some, Option.getD_none, Option.map_some, if_true, if_false, reduceIte, List.map_cons, List.map_nil, List.nil_append, List.cons_append, List.append_nil, List.length_cons, List.length_nil, List.replicate, Nat.zero_add, Nat.add_zero, Nat.reduceAdd, Nat.reduceSub, startD, tru_bl, tru_lst, add_int, sub_int, neg_int, lt_int, gt_int, le_int, ge_int, int_int, max_int, min_int, list_l, list_s, list_t, Bool.not_true, Bool.not_false, decide_true, decide_false, Bool.false_eq_true, List.length_append, List.append_eq, clean_ret]
end K25

namespace K25
open PySem PySem.Spec Z
theorem wipe1 (ρ : Z.Env) (i : Nat) (x : Option D) : (wipeD ρ [i]).set i x = ρ.set i x := by simp [wipeD]
theorem get_set {ρ : Z.Env} {i j : Nat} {x : Option D} (h : i ≠ j) : (ρ.set i x)[j]? = ρ[j]? := List.getElem?_set_ne h
theorem get_set' {ρ : Z.Env} {i : Nat} {x : Option D} (h : i < ρ.length) : (ρ.set i x)[i]? = some x := List.getElem?_set_self h
theorem v_eq {ρ : Z.Env} {μ : Mem} {i : Nat} {d : D} (h : ρ[i]? = some (some d)) : fV i ρ μ = .ok d μ := by
  unfold fV Env.at; rw [h]; rfl
/-- told is small -/
structure Sm (t : List Row) : Prop where
  l : t.length ≤ 1000
  r : ∀ r ∈ t, r.length ≤ 1000
theorem nights_lc {t : List Row} (h : Sm t) (ρ : Z.Env) (μ : Mem) (p i j : Nat) (hp : ρ[p]? = some (some (dT t))) (hi : i < ρ.length) (hj : j < ρ.length) (hij : i ≠ j) :
    fLc (iVal (fV p)) (aNm i) tYes (fBi dSum (fCons (fTree (fLc (iVal (fV i)) (aNm j) tYes (fOp2 dAdd (fOp2 dSub (fIx (fV j) (fC (.int 1))) (fIx (fV j) (fC (.int 0)))) (fC (.int 1))) [j])) fNil)) [i] ρ μ = .ok ((t.map spanR).map D.int) μ := by
  rw [← map_map_int]
  refine fLc_yes dR (fun r => .int (spanR r)) (gd := none) (val_eq (v_eq hp) (wkT t μ)) trivial (sl1000 h.l) fun r hr => ?_
  refine ⟨ρ.set i (some (dR r)), by rw [aNm, wipe1], ?_⟩
  have k := span_ok r (h.r r hr) (ρ.set i (some (dR r))) μ i j (get_set' hi) (by simpa using hj)
  refine (bi_eq (cons1_eq (tree_eq k))).trans ?_
  rw [map_map_int]
  exact sum_ints _ μ
/-! ### the fullest room -/
theorem ints_D (ns : List Int) : intsD (ns.map D.int) = some ns := by
  induction ns with
  | nil => rfl
  | cons n ns ih => simp [intsD, ih]
theorem maxI_mem {ns : List Int} {m : Int} (h : maxI ns = some m) : m ∈ ns := by
  cases ns with
  | nil => cases h
  | cons n ns =>
    have := (foldl_max ns n).1
    have e : ns.foldl max n = m := Option.some.inj h
    rw [e] at this; exact this
theorem max_ok (ns : List Int) (μ : Mem) {m : Int} (h : maxI ns = some m) : dMax1 [.lst (ns.map D.int)] μ = .ok (.int m) μ := by
  show R.ofP μ (((lstD μ (.lst (ns.map D.int))).bind intsD).bind fun ns => (maxI ns).map D.int) = _
  have e : (lstD μ (.lst (ns.map D.int))).bind intsD = some ns := ints_D ns
  rw [e, Option.bind_some, h]; rfl
theorem index_ok (ns : List Int) (μ : Mem) {m : Int} (h : m ∈ ns) : ∃ j : Nat, dIndex (.lst (ns.map D.int)) [.int m] μ = .ok (.int j) μ := by
  have hf : flatD (.int m) = true ∧ (ns.map D.int).all flatD = true := ⟨rfl, by rw [List.all_eq_true]; intro d hd; obtain ⟨x, _, rfl⟩ := List.mem_map.mp hd; rfl⟩
  have hs : ((ns.map D.int).findIdx? fun d => eqF d (.int m)).isSome = true := by
    rw [List.findIdx?_isSome, List.any_eq_true]
    exact ⟨.int m, List.mem_map.mpr ⟨m, h, rfl⟩, by simp [eqF]⟩
  obtain ⟨j, hj⟩ := Option.isSome_iff_exists.mp hs
  refine ⟨j, ?_⟩
  have e2 : lstD μ (.lst (ns.map D.int)) = some (ns.map D.int) := rfl
  unfold dIndex
  simp only [e2]
  rw [if_pos hf, hj]
/-- what both tell of the fullest room, of the counts in slot i -/
theorem most_ok (ns : List Int) (hl : ns ≠ []) (μ : Mem) : ∃ d : D, d.isT = true ∧ D.fit 9 d = true ∧ ∀ (ρ : Z.Env) (i : Nat), ρ[i]? = some (some (.lst (ns.map D.int))) → fTup (fCons (fMtT "list" dIndex (fV i) (fCons (fBi dMax1 (fCons (fV i) fNil)) fNil)) (fCons (fBi dMax1 (fCons (fV i) fNil)) fNil)) ρ μ = .ok d μ := by
  obtain ⟨m, hm⟩ : ∃ m, maxI ns = some m := by cases ns with
    | nil => exact absurd rfl hl
    | cons n ns => exact ⟨_, rfl⟩
  obtain ⟨j, hj⟩ := index_ok ns μ (maxI_mem hm)
  refine ⟨.tup [.int j, .int m], rfl, rfl, fun ρ i hi => ?_⟩
  have h1 : fBi dMax1 (fCons (fV i) fNil) ρ μ = .ok (.int m) μ := (bi_eq (cons1_eq (v_eq hi))).trans (max_ok ns μ hm)
  have h2 : fMtT "list" dIndex (fV i) (fCons (fBi dMax1 (fCons (fV i) fNil)) fNil) ρ μ = .ok (.int j) μ := by
    rw [mt_list (x := .lst (ns.map D.int)) (ds := ns.map D.int) (v_eq hi) rfl, cons1_eq h1, bind_ok, hj]
  exact tup_eq (cons_eq h2 (cons1_eq h1)) (by simp)
end K25

namespace K25
open PySem PySem.Spec Z
/-! ### lines -/
structure StOk (s : Stay) : Prop where
  a0 : 0 ≤ s.a
  a1 : s.a ≤ 19
  b0 : 0 ≤ s.b
  b1 : s.b ≤ 19
  n : s.n.length ≤ 2
theorem num_len (i : Int) (h0 : 0 ≤ i) (h1 : i ≤ 19) : (Str.ofString (toString i)).length ≤ 3 ∧ i.natAbs.log2 < 1920 := by
  obtain ⟨n, rfl⟩ := Int.eq_ofNat_of_zero_le h0
  have : n < 20 := by omega
  have k : ∀ n : Fin 20, (Str.ofString (toString ((n.val : Nat) : Int))).length ≤ 3 ∧ ((n.val : Nat) : Int).natAbs.log2 < 1920 := by decide +kernel
  exact k ⟨n, this⟩
def lineS (s : Stay) : Str := (((Str.ofString (toString s.a) ++ Str.ofString "-") ++ Str.ofString (toString s.b)) ++ Str.ofString " ") ++ s.n
theorem add_str {a b : Str} (μ : Mem) (h : a.length + b.length ≤ 1000) : dAdd (.str a) (.str b) μ = .ok (.str (a ++ b)) μ := by
  show (if _ then _ else _) = _
  rw [if_pos (sl1000 h)]
theorem str_ok (i : Int) (μ : Mem) (h : i.natAbs.log2 < 1920) : dStr [.int i] μ = .ok (.str (Str.ofString (toString i))) μ := by
  show (if _ then _ else _) = _
  rw [if_pos h]
theorem lineS_len {s : Stay} (h : StOk s) : (lineS s).length ≤ 10 := by
  have h1 := (num_len s.a h.a0 h.a1).1
  have h2 := (num_len s.b h.b0 h.b1).1
  have h3 := h.n
  have e1 : (Str.ofString "-").length = 1 := by decide
  have e2 : (Str.ofString " ").length = 1 := by decide
  unfold lineS
  simp only [Str.length_append, e1, e2]
  omega
theorem line_ok {s : Stay} (h : StOk s) (ρ : Z.Env) (μ : Mem) (j : Nat) (hj : ρ[j]? = some (some (dS s))) :
    fOp2 dAdd (fOp2 dAdd (fOp2 dAdd (fOp2 dAdd (fBi dStr (fCons (fIx (fV j) (fC (.int 0))) fNil)) (fC (.str "-"))) (fBi dStr (fCons (fIx (fV j) (fC (.int 1))) fNil))) (fC (.str " "))) (fIx (fV j) (fC (.int 2))) ρ μ = .ok (.str (lineS s)) μ := by
  have h1 := num_len s.a h.a0 h.a1
  have h2 := num_len s.b h.b0 h.b1
  have h3 := h.n
  have e1 : (Str.ofString "-").length = 1 := by decide
  have e2 : (Str.ofString " ").length = 1 := by decide
  have k1 : fBi dStr (fCons (fIx (fV j) (fC (.int 0))) fNil) ρ μ = .ok (.str (Str.ofString (toString s.a))) μ := (bi_eq (cons1_eq ((ix_eq (v_eq hj) c_eq).trans (ixS0 s μ)))).trans (str_ok _ _ h1.2)
  have k2 : fBi dStr (fCons (fIx (fV j) (fC (.int 1))) fNil) ρ μ = .ok (.str (Str.ofString (toString s.b))) μ := (bi_eq (cons1_eq ((ix_eq (v_eq hj) c_eq).trans (ixS1 s μ)))).trans (str_ok _ _ h2.2)
  have k3 : fIx (fV j) (fC (.int 2)) ρ μ = .ok (.str s.n) μ := (ix_eq (v_eq hj) c_eq).trans (ixS2 s μ)
  have a1 := (op2_eq (op := dAdd) k1 (c_eq (d := .str (Str.ofString "-")))).trans (add_str μ (by omega))
  have a2 := (op2_eq (op := dAdd) a1 k2).trans (add_str μ (by rw [Str.length_append]; omega))
  have a3 := (op2_eq (op := dAdd) a2 (c_eq (d := .str (Str.ofString " ")))).trans (add_str μ (by simp only [Str.length_append]; omega))
  exact (op2_eq (op := dAdd) a3 k3).trans (add_str μ (by simp only [Str.length_append]; omega))
def rowS (r : Row) : Str := Txt.join (Str.ofString ", ") (r.map lineS)
theorem strs_D (ns : List Str) : strsD (ns.map D.str) = some ns := by
  induction ns with
  | nil => rfl
  | cons n ns ih => simp [strsD, ih]
theorem sum_len : ∀ {r : Row}, (∀ s ∈ r, StOk s) → ((r.map lineS).map (·.length)).sum ≤ 10 * r.length
  | [], _ => by simp
  | s :: r, h => by
    have := lineS_len (h s List.mem_cons_self)
    have := sum_len fun x hx => h x (List.mem_cons_of_mem _ hx)
    simp only [List.map_cons, List.sum_cons, List.length_cons]
    omega
theorem lines_lc {t : List Row} (h : Sm t) (hs : ∀ r ∈ t, ∀ s ∈ r, StOk s) (ρ : Z.Env) (μ : Mem) (p i j : Nat) (hp : ρ[p]? = some (some (dT t))) (hi : i < ρ.length) (hj : j < ρ.length) :
    fLc (iVal (fV p)) (aNm i) tYes (fMtT "str" dJoin (fC (.str ", ")) (fCons (fTree (fLc (iVal (fV i)) (aNm j) tYes (fOp2 dAdd (fOp2 dAdd (fOp2 dAdd (fOp2 dAdd (fBi dStr (fCons (fIx (fV j) (fC (.int 0))) fNil)) (fC (.str "-"))) (fBi dStr (fCons (fIx (fV j) (fC (.int 1))) fNil))) (fC (.str " "))) (fIx (fV j) (fC (.int 2)))) [j])) fNil)) [i] ρ μ = .ok (t.map fun r => .str (rowS r)) μ := by
  refine fLc_yes dR (fun r => .str (rowS r)) (gd := none) (val_eq (v_eq hp) (wkT t μ)) trivial (sl1000 h.l) fun r hr => ?_
  refine ⟨ρ.set i (some (dR r)), by rw [aNm, wipe1], ?_⟩
  have k : fLc (iVal (fV i)) (aNm j) tYes (fOp2 dAdd (fOp2 dAdd (fOp2 dAdd (fOp2 dAdd (fBi dStr (fCons (fIx (fV j) (fC (.int 0))) fNil)) (fC (.str "-"))) (fBi dStr (fCons (fIx (fV j) (fC (.int 1))) fNil))) (fC (.str " "))) (fIx (fV j) (fC (.int 2)))) [j] (ρ.set i (some (dR r))) μ = .ok (r.map fun s => .str (lineS s)) μ := by
    refine fLc_yes dS (fun s => .str (lineS s)) (gd := none) (val_eq (v_eq (get_set' hi)) (wkR r μ)) trivial (sl1000 (h.r r hr)) fun s hsm => ?_
    refine ⟨(ρ.set i (some (dR r))).set j (some (dS s)), by rw [aNm, wipe1], ?_⟩
    exact line_ok (hs r hr s hsm) _ μ j (get_set' (by simpa using hj))
  have e : (r.map fun s => D.str (lineS s)) = (r.map lineS).map D.str := by rw [List.map_map]; rfl
  have hl : ((r.map lineS).map (·.length)).sum + (r.map lineS).length * (Str.ofString ", ").length ≤ 16777216 := by
    have := sum_len (hs r hr)
    have := h.r r hr
    have e1 : (Str.ofString ", ").length = 2 := by decide
    rw [e1, List.length_map]
    omega
  unfold fMtT
  rw [show fC (.str ", ") (ρ.set i (some (dR r))) μ = .ok (.str (Str.ofString ", ")) μ from rfl, bind_ok]
  rw [if_pos (show tyD "str" (.str (Str.ofString ", ")) μ = true by rfl), cons1_eq (tree_eq k), bind_ok]
  have e2 : (lstD μ (.lst (r.map fun s => D.str (lineS s)))).bind strsD = some (r.map lineS) := by
    show strsD (r.map fun s => D.str (lineS s)) = _
    rw [e]; exact strs_D _
  unfold dJoin
  simp only [e2]
  rw [if_pos hl]
  rfl
/-! ### together -/
def hasN (n : Str) (r : Row) : Bool := r.any fun s => decide (s.n = n)
def togM (t : List Row) (n : Str) : List Nat := (List.range t.length).filter fun i => hasN n (t.getD i [])
theorem filt_any {α : Type} (p : α → Bool) (f : α → D) : ∀ xs : List α, (!((xs.filter p).map f).isEmpty) = xs.any p
  | [] => rfl
  | x :: xs => by
    by_cases h : p x = true
    · simp [h]
    · simp only [List.filter_cons_of_neg (by simpa using h), List.any_cons, filt_any p f xs]
      simp [h]
theorem ixD {t : List Row} {i : Nat} (h : i < t.length) (μ : Mem) : dIx (dT t) (.int i) μ = .ok (dR (t.getD i [])) μ := ixT (by simp [h]) μ
theorem together_lc {t : List Row} (h : Sm t) (n : Str) (ρ : Z.Env) (μ : Mem) (p q i j : Nat) (hp : ρ[p]? = some (some (dT t))) (hq : ρ[q]? = some (some (.str n))) (hi : i < ρ.length) (hj : j < ρ.length) (h1 : i ≠ p) (h2 : i ≠ q) (h3 : j ≠ q) (h4 : j ≠ p) (h5 : j ≠ i) :
    fLc (iRg1 (fBi dLen (fCons (fV p) fNil))) (aNm i) (fTru (fTree (fLc (iVal (fIx (fV p) (fV i))) (aNm j) (Z.tCmp dEq (fIx (fV j) (fC (.int 2))) (fV q)) (fV j) [j]))) (fV i) [i] ρ μ = .ok ((togM t n).map fun k => .int (k : Nat)) μ := by
  have h0 := h.l
  refine fLc_map (fun k : Nat => D.int (k : Int)) (fun k => hasN n (t.getD k [])) (fun k => .int (k : Nat)) (gd := none) (rg1_ok ((bi_eq (cons1_eq (v_eq hp))).trans (lenT t μ)) (by omega)) trivial (by rw [List.length_range]; exact sl1000 h.l) fun k hk => ?_
  have hk := List.mem_range.mp hk
  refine ⟨ρ.set i (some (.int (k : Int))), by rw [aNm, wipe1], ?_, fun _ => v_eq (get_set' hi)⟩
  have vp : fV p (ρ.set i (some (.int (k : Int)))) μ = .ok (dT t) μ := v_eq (by rw [get_set h1]; exact hp)
  have key : fLc (iVal (fIx (fV p) (fV i))) (aNm j) (Z.tCmp dEq (fIx (fV j) (fC (.int 2))) (fV q)) (fV j) [j] (ρ.set i (some (.int (k : Int)))) μ = .ok (((t.getD k []).filter fun s => decide (s.n = n)).map dS) μ := by
    refine fLc_map dS (fun s => decide (s.n = n)) dS (gd := none) (val_eq ((ix_eq vp (v_eq (get_set' hi))).trans (ixD hk μ)) (wkR _ μ)) trivial (sl1000 (h.r _ (by simp [hk]))) fun s _ => ?_
    refine ⟨(ρ.set i (some (.int (k : Int)))).set j (some (dS s)), by rw [aNm, wipe1], ?_, fun _ => v_eq (get_set' (by simpa using hj))⟩
    refine tc_eq ((ix_eq (v_eq (get_set' (by simpa using hj))) c_eq).trans (ixS2 s μ)) (v_eq (d := .str n) (by rw [get_set h3, get_set h2]; exact hq)) (dEq_str _ _ μ)
  refine tru_eq (tree_eq key) ?_
  rw [tru_lst, filt_any]; rfl
theorem together2_lc {t : List Row} (h : Sm t) (n : Str) (ρ : Z.Env) (μ : Mem) (p q i j : Nat) (hp : ρ[p]? = some (some (dT t))) (hq : ρ[q]? = some (some (.str n))) (hi : i < ρ.length) (hj : j < ρ.length) (h1 : i ≠ p) (h2 : i ≠ q) :
    fLc (iRg1 (fBi dLen (fCons (fV p) fNil))) (aNm i) (Z.tCmp dIn (fV q) (fTree (fLc (iVal (fIx (fV p) (fV i))) (aNm j) tYes (fIx (fV j) (fC (.int 2))) [j]))) (fV i) [i] ρ μ = .ok ((togM t n).map fun k => .int (k : Nat)) μ := by
  have h0 := h.l
  refine fLc_map (fun k : Nat => D.int (k : Int)) (fun k => hasN n (t.getD k [])) (fun k => .int (k : Nat)) (gd := none) (rg1_ok ((bi_eq (cons1_eq (v_eq hp))).trans (lenT t μ)) (by omega)) trivial (by rw [List.length_range]; exact sl1000 h.l) fun k hk => ?_
  have hk := List.mem_range.mp hk
  refine ⟨ρ.set i (some (.int (k : Int))), by rw [aNm, wipe1], ?_, fun _ => v_eq (get_set' hi)⟩
  have vp : fV p (ρ.set i (some (.int (k : Int)))) μ = .ok (dT t) μ := v_eq (by rw [get_set h1]; exact hp)
  have key : fLc (iVal (fIx (fV p) (fV i))) (aNm j) tYes (fIx (fV j) (fC (.int 2))) [j] (ρ.set i (some (.int (k : Int)))) μ = .ok ((t.getD k []).map fun s => .str s.n) μ := by
    refine fLc_yes dS (fun s => .str s.n) (gd := none) (val_eq ((ix_eq vp (v_eq (get_set' hi))).trans (ixD hk μ)) (wkR _ μ)) trivial (sl1000 (h.r _ (by simp [hk]))) fun s _ => ?_
    exact ⟨(ρ.set i (some (.int (k : Int)))).set j (some (dS s)), by rw [aNm, wipe1], (ix_eq (v_eq (get_set' (by simpa using hj))) c_eq).trans (ixS2 s μ)⟩
  refine tc_eq (v_eq (by rw [get_set h2]; exact hq)) (tree_eq key) ?_
  have f1 : D.fits 8 ((t.getD k []).map fun s => D.str s.n) = true := fits_map _ _ fun s _ => by simp [D.fit]
  show (if D.fits 8 ((t.getD k []).map fun s => D.str s.n) = true ∧ D.fit 9 (.str n) = true then some (((t.getD k []).map fun s => D.str s.n).any fun z => D.eqb z (.str n)) else none) = _
  rw [if_pos ⟨f1, by simp [D.fit]⟩, List.any_map]
  exact congrArg some (congrArg (List.any (t.getD k [])) (funext fun s => eqb_str s.n n))
end K25

namespace K25
open PySem PySem.Spec Z
/-! ### who comes, who leaves -/
def chM (t : List Row) (q : Stay → Bool) (k : Nat) : List D := ((t.getD k []).filter q).map fun s => .tup [.int k, dS s]
def comeM (t : List Row) (q : Stay → Bool) (ks : List Nat) : List D := (ks.map (chM t q)).flatten
theorem chM_len (t : List Row) (q : Stay → Bool) (k : Nat) : (chM t q k).length ≤ (t.getD k []).length := by
  unfold chM
  rw [List.length_map]
  exact List.length_filter_le _ _
theorem getD_sum : ∀ (t : List Row) (n : Nat), ((List.range n).map fun k => (t.getD k []).length).sum ≤ t.flatten.length
  | [], n => by
    induction n with
    | zero => simp
    | succ n ih => rw [List.range_succ, List.map_append, List.sum_append]; simpa using ih
  | r :: t, 0 => by simp
  | r :: t, n + 1 => by
    rw [List.range_succ_eq_map, List.map_cons, List.map_map, List.sum_cons, List.flatten_cons, List.length_append]
    have := getD_sum t n
    have e : ((fun k => ((r :: t).getD k []).length) ∘ Nat.succ) = fun k => (t.getD k []).length := by funext k; simp
    rw [e]
    simp only [List.getD_cons_zero]
    omega
theorem comeM_len (t : List Row) (q : Stay → Bool) (n : Nat) : (comeM t q (List.range n)).length ≤ t.flatten.length := by
  refine Nat.le_trans ?_ (getD_sum t n)
  unfold comeM
  rw [List.length_flatten, List.map_map]
  generalize List.range n = l
  induction l with
  | nil => simp
  | cons k l ih =>
    simp only [List.map_cons, List.sum_cons, Function.comp_apply]
    have := chM_len t q k
    omega
theorem ch_lc {t : List Row} (h : Sm t) (q : Stay → Bool) {T : SemT} (ρ : Z.Env) (μ : Mem) (p k s : Nat) {x : Nat} (hx : x < t.length) (hp : ρ[p]? = some (some (dT t))) (hk : ρ[k]? = some (some (.int x))) (hs : s < ρ.length) (h3 : s ≠ k)
    (hT : ∀ y : Stay, T (ρ.set s (some (dS y))) μ = .ok (q y) μ) : fLc (iVal (fIx (fV p) (fV k))) (aNm s) T (fTup (fCons (fV k) (fCons (fV s) fNil))) [s] ρ μ = .ok (chM t q x) μ := by
  refine fLc_map dS q (fun s => .tup [.int x, dS s]) (gd := none) (val_eq ((ix_eq (v_eq hp) (v_eq hk)).trans (ixD hx μ)) (wkR _ μ)) trivial (sl1000 (h.r _ (by simp [hx]))) fun y _ => ?_
  refine ⟨ρ.set s (some (dS y)), by rw [aNm, wipe1], hT y, fun _ => ?_⟩
  exact tup_eq (cons_eq (v_eq (by rw [get_set h3]; exact hk)) (cons1_eq (v_eq (get_set' hs)))) (by simp)
noncomputable def bCh (p n c l k s : Nat) : SemS := sSeq (sSet c (fTree (fCat (fV c) (fTree (fLc (iVal (fIx (fV p) (fV k))) (aNm s) (Z.tCmp dEq (fIx (fV s) (fC (.int 0))) (fV n)) (fTup (fCons (fV k) (fCons (fV s) fNil))) [s]))))) (sSet l (fTree (fCat (fV l) (fTree (fLc (iVal (fIx (fV p) (fV k))) (aNm s) (Z.tCmp dEq (fIx (fV s) (fC (.int 1))) (fOp2 dSub (fV n) (fC (.int 1)))) (fTup (fCons (fV k) (fCons (fV s) fNil))) [s])))))
end K25
namespace K25
open PySem PySem.Spec Z
theorem comeM_snoc (t : List Row) (q : Stay → Bool) (ks : List Nat) (k : Nat) : comeM t q (ks ++ [k]) = comeM t q ks ++ chM t q k := by simp [comeM]
theorem range_split {n : Nat} {d : List Nat} {k : Nat} {rest : List Nat} (h : List.range n = d ++ k :: rest) : d = List.range k ∧ k < n := by
  have hl : d.length < n := by have := congrArg List.length h; simp at this; omega
  have hk : (List.range n)[d.length]? = some k := by rw [h]; simp
  rw [List.getElem?_range hl] at hk
  have e := Option.some.inj hk
  refine ⟨?_, by omega⟩
  have h2 := congrArg (List.take d.length) h
  rw [List.take_left, List.take_range, Nat.min_eq_left (Nat.le_of_lt hl)] at h2
  rw [← e]; exact h2.symm
theorem ch_loop {t : List Row} (h : Sm t) (hf : t.flatten.length ≤ 1000) (night : Int) (ρ : Z.Env) (μ : Mem) (p n c l k s : Nat) (hp : ρ[p]? = some (some (dT t))) (hn : ρ[n]? = some (some (.int night))) (hc : ρ[c]? = some (some (.lst []))) (hl : ρ[l]? = some (some (.lst [])))
    (lc : c < ρ.length) (ll : l < ρ.length) (lk : k < ρ.length) (ls : s < ρ.length) (ncl : c ≠ l) (nck : c ≠ k) (nlk : l ≠ k) (ncs : c ≠ s) (nls : l ≠ s) (nks : s ≠ k) (npk : k ≠ p) (npc : c ≠ p) (npl : l ≠ p) (nnk : k ≠ n) (nnc : c ≠ n) (nnl : l ≠ n) (nns : s ≠ n) :
    ∃ ρ' : Z.Env, sFor (iRg1 (fBi dLen (fCons (fV p) fNil))) (aNm k) (bCh p n c l k s) ρ μ = .next ρ' μ ∧ ρ'.length = ρ.length ∧ (∀ x, x ≠ c → x ≠ l → x ≠ k → ρ'[x]? = ρ[x]?) ∧
      ρ'[c]? = some (some (.lst (comeM t (fun s => decide (s.a = night)) (List.range t.length)))) ∧ ρ'[l]? = some (some (.lst (comeM t (fun s => decide (s.b = night - 1)) (List.range t.length)))) := by
  have h0 := h.l
  obtain ⟨ρ', μ', h1, e1, h2, h3, d, h4, h5, h6⟩ := forL_inv (gd := none) (a := aNm k) (b := bCh p n c l k s) (fun i : Nat => D.int (i : Int)) (fun rest ρ' μ' => μ' = μ ∧ ρ'.length = ρ.length ∧ (∀ x, x ≠ c → x ≠ l → x ≠ k → ρ'[x]? = ρ[x]?) ∧ ∃ d, List.range t.length = d ++ rest ∧
      ρ'[c]? = some (some (.lst (comeM t (fun s => decide (s.a = night)) d))) ∧ ρ'[l]? = some (some (.lst (comeM t (fun s => decide (s.b = night - 1)) d)))) (List.range t.length) (ρ := ρ) (μ := μ) ⟨rfl, rfl, fun _ _ _ _ => rfl, [], rfl, hc, hl⟩
    fun i rest ρ1 μ1 ⟨e1, h2, h3, d, h4, h5, h6⟩ => by
      subst e1
      obtain ⟨ed, hi⟩ := range_split h4
      have hp1 : (ρ1.set k (some (.int (i : Int))))[p]? = some (some (dT t)) := by rw [get_set npk, h3 p npc.symm npl.symm npk.symm]; exact hp
      have hn1 : (ρ1.set k (some (.int (i : Int))))[n]? = some (some (.int night)) := by rw [get_set nnk, h3 n nnc.symm nnl.symm nnk.symm]; exact hn
      have hk1 : (ρ1.set k (some (.int (i : Int))))[k]? = some (some (.int i)) := get_set' (by rw [h2]; exact lk)
      have lens : ∀ q : Stay → Bool, (comeM t q d).length ≤ 1000 ∧ (chM t q i).length ≤ 1000 := fun q => by
        refine ⟨?_, ?_⟩
        · rw [ed]; exact Nat.le_trans (comeM_len t q i) hf
        · exact Nat.le_trans (chM_len t q i) (h.r _ (by simp [hi]))
      have ka := ch_lc h (fun s => decide (s.a = night)) (T := Z.tCmp dEq (fIx (fV s) (fC (.int 0))) (fV n)) (ρ1.set k (some (.int (i : Int)))) μ1 p k s hi hp1 hk1 (by rw [List.length_set, h2]; exact ls) nks fun y =>
        tc_eq ((ix_eq (v_eq (get_set' (by rw [List.length_set, h2]; exact ls))) c_eq).trans (ixS0 y μ1)) (v_eq (by rw [get_set nns]; exact hn1)) (dEq_int _ _ μ1)
      have kc := cat_ok (a := fV c) (b := fTree (fLc (iVal (fIx (fV p) (fV k))) (aNm s) (Z.tCmp dEq (fIx (fV s) (fC (.int 0))) (fV n)) (fTup (fCons (fV k) (fCons (fV s) fNil))) [s])) (ρ := ρ1.set k (some (.int (i : Int)))) (μ := μ1) (v_eq (by rw [get_set nck.symm]; exact h5)) (tree_eq ka) (by have := lens fun s => decide (s.a = night); omega)
      rw [← comeM_snoc] at kc
      let ρ2 := (ρ1.set k (some (.int (i : Int)))).set c (some (.lst (comeM t (fun s => decide (s.a = night)) (d ++ [i]))))
      have kb := ch_lc h (fun s => decide (s.b = night - 1)) (T := Z.tCmp dEq (fIx (fV s) (fC (.int 1))) (fOp2 dSub (fV n) (fC (.int 1)))) ρ2 μ1 p k s hi (by rw [get_set npc]; exact hp1) (by rw [get_set nck]; exact hk1) (by rw [List.length_set, List.length_set, h2]; exact ls) nks fun y =>
        tc_eq ((ix_eq (v_eq (get_set' (by rw [List.length_set, List.length_set, h2]; exact ls))) c_eq).trans (ixS1 y μ1)) (op2_eq (op := dSub) (v_eq (d := .int night) (by rw [get_set nns, get_set nnc]; exact hn1)) c_eq) (dEq_int _ _ μ1)
      have kl := cat_ok (a := fV l) (b := fTree (fLc (iVal (fIx (fV p) (fV k))) (aNm s) (Z.tCmp dEq (fIx (fV s) (fC (.int 1))) (fOp2 dSub (fV n) (fC (.int 1)))) (fTup (fCons (fV k) (fCons (fV s) fNil))) [s])) (ρ := ρ2) (μ := μ1) (v_eq (by rw [get_set ncl, get_set nlk.symm]; exact h6)) (tree_eq kb) (by have := lens fun s => decide (s.b = night - 1); omega)
      rw [← comeM_snoc] at kl
      refine ⟨ρ1.set k (some (.int (i : Int))), rfl, ρ2.set l (some (.lst (comeM t (fun s => decide (s.b = night - 1)) (d ++ [i])))), μ1, (seq_nx (set_eq (tree_eq kc))).trans (set_eq (tree_eq kl)), trivial, rfl, ?_, fun x x1 x2 x3 => ?_, d ++ [i], by rw [h4]; simp, ?_, ?_⟩
      · rw [List.length_set, List.length_set, List.length_set, h2]
      · rw [get_set x2.symm, get_set x1.symm, get_set x3.symm]; exact h3 x x1 x2 x3
      · rw [get_set ncl.symm]; exact get_set' (by rw [List.length_set, h2]; exact lc)
      · exact get_set' (by rw [List.length_set, List.length_set, h2]; exact ll)
  subst e1
  rw [List.append_nil] at h4
  subst h4
  refine ⟨ρ', (for_eq (rg1_ok ((bi_eq (cons1_eq (v_eq hp))).trans (lenT t μ')) (by omega))).trans h1, h2, h3, h5, h6⟩
theorem changes_ok {t : List Row} (h : Sm t) (hf : t.flatten.length ≤ 1000) (night : Int) (μ : Mem) : S_changes [dT t, .int night] μ = .ok (.tup [.lst (comeM t (fun s => decide (s.a = night)) (List.range t.length)), .lst (comeM t (fun s => decide (s.b = night - 1)) (List.range t.length))]) μ := by
  obtain ⟨ρ', h1, h2, h3, h4, h5⟩ := ch_loop h hf night [some (dT t), some (.int night), some (.lst []), some (.lst []), none, none] μ 0 1 2 3 4 5 rfl rfl rfl rfl (by simp) (by simp) (by simp) (by simp) (by decide) (by decide) (by decide) (by decide) (by decide) (by decide) (by decide) (by decide) (by decide) (by decide) (by decide) (by decide) (by decide)
  have e : ∀ μ, fTree (fItems fNil) [some (dT t), some (.int night), none, none, none, none] μ = .ok (.lst []) μ := fun μ => tree_eq (items_eq nil_eq (by simp))
  have e2 : ∀ μ, fTree (fItems fNil) [some (dT t), some (.int night), some (.lst []), none, none, none] μ = .ok (.lst []) μ := fun μ => tree_eq (items_eq nil_eq (by simp))
  have body : b_changes (startD 6 [dT t, .int night]) μ = .ret (.tup [.lst (comeM t (fun s => decide (s.a = night)) (List.range t.length)), .lst (comeM t (fun s => decide (s.b = night - 1)) (List.range t.length))]) μ :=
    (seq_nx (set_eq (e μ))).trans ((seq_nx (set_eq (e2 μ))).trans ((seq_nx h1).trans (ret_eq (tup_eq (cons_eq (v_eq h4) (cons1_eq (v_eq h5))) (by simp)))))
  show cleanD μ (b_changes (startD 6 [dT t, .int night]) μ) = _
  rw [body, clean_ret]
end K25

namespace K25
open PySem PySem.Spec Z
/-! ### free rooms -/
def meets (f l : Int) (s : Stay) : Bool := decide (s.a ≤ l) && decide (f ≤ s.b)
def isFree (t : List Row) (f l : Int) (k : Nat) : Bool := !((t.getD k []).any (meets f l))
def freeM (t : List Row) (f l : Int) : List Nat := (List.range t.length).filter (isFree t f l)
theorem meet_lc {t : List Row} (h : Sm t) (f l : Int) (ρ : Z.Env) (μ : Mem) (p fi li k s : Nat) {x : Nat} (hx : x < t.length) (hp : ρ[p]? = some (some (dT t))) (hf : ρ[fi]? = some (some (.int f))) (hl : ρ[li]? = some (some (.int l))) (hk : ρ[k]? = some (some (.int x))) (hs : s < ρ.length) (n1 : s ≠ fi) (n2 : s ≠ li) :
    fLc (iVal (fIx (fV p) (fV k))) (aNm s) (Z.tAnd (Z.tCmp dLe (fIx (fV s) (fC (.int 0))) (fV li)) (Z.tCmp dLe (fV fi) (fIx (fV s) (fC (.int 1))))) (fV s) [s] ρ μ = .ok (((t.getD x []).filter (meets f l)).map dS) μ := by
  refine fLc_map dS (meets f l) dS (gd := none) (val_eq ((ix_eq (v_eq hp) (v_eq hk)).trans (ixD hx μ)) (wkR _ μ)) trivial (sl1000 (h.r _ (by simp [hx]))) fun y _ => ?_
  refine ⟨ρ.set s (some (dS y)), by rw [aNm, wipe1], ?_, fun _ => v_eq (get_set' hs)⟩
  refine and_eq (tc_eq ((ix_eq (v_eq (get_set' hs)) c_eq).trans (ixS0 y μ)) (v_eq (d := .int l) (by rw [get_set n2]; exact hl)) (le_int μ _ _)) (tc_eq (v_eq (d := .int f) (by rw [get_set n1]; exact hf)) ((ix_eq (v_eq (get_set' hs)) c_eq).trans (ixS1 y μ)) (le_int μ _ _))
theorem freeL_ok {t : List Row} (h : Sm t) (f l : Int) (μ : Mem) : S__law_free [dT t, .int f, .int l] μ = .ok (.lst ((freeM t f l).map fun k => .int (k : Nat))) μ := by
  have h0 := h.l
  have key : fLc (iRg1 (fBi dLen (fCons (fV 0) fNil))) (aNm 3) (Z.tCmp dEq (fBi dLen (fCons (fTree (fLc (iVal (fIx (fV 0) (fV 3))) (aNm 4) (Z.tAnd (Z.tCmp dLe (fIx (fV 4) (fC (.int 0))) (fV 2)) (Z.tCmp dLe (fV 1) (fIx (fV 4) (fC (.int 1))))) (fV 4) [4])) fNil)) (fC (.int 0))) (fV 3) [3] [some (dT t), some (.int f), some (.int l), none, none] μ = .ok ((freeM t f l).map fun k => .int (k : Nat)) μ := by
    refine fLc_map (fun k : Nat => D.int (k : Int)) (isFree t f l) (fun k => .int (k : Nat)) (gd := none) (rg1_ok ((bi_eq (cons1_eq (v_eq rfl))).trans (lenT t μ)) (by omega)) trivial (by rw [List.length_range]; exact sl1000 h.l) fun k hk => ?_
    have hk := List.mem_range.mp hk
    refine ⟨[some (dT t), some (.int f), some (.int l), some (.int (k : Int)), none], rfl, ?_, fun _ => v_eq rfl⟩
    have m := meet_lc h f l [some (dT t), some (.int f), some (.int l), some (.int (k : Int)), none] μ 0 1 2 3 4 hk rfl rfl rfl rfl (by simp) (by decide) (by decide)
    refine tc_eq ((bi_eq (cons1_eq (tree_eq m))).trans (len_lst _ μ)) c_eq ((dEq_int _ _ μ).trans ?_)
    unfold isFree
    rw [List.length_map]
    congr 1
    rw [← filt_any (meets f l) dS]
    cases (t.getD k []).filter (meets f l) with
    | nil => simp
    | cons a b => simp; omega
  show cleanD μ (b__law_free (startD 5 [dT t, .int f, .int l]) μ) = _
  have body : b__law_free (startD 5 [dT t, .int f, .int l]) μ = .ret (.lst ((freeM t f l).map fun k => .int (k : Nat))) μ := ret_eq (tree_eq key)
  rw [body, clean_ret]
theorem filter_snoc {α : Type} (p : α → Bool) (xs : List α) (x : α) : (xs ++ [x]).filter p = if p x = true then xs.filter p ++ [x] else xs.filter p := by
  rw [List.filter_append]
  by_cases h : p x = true
  · simp [h]
  · simp [h]
theorem ints_lo (m : Nat) (ks : List Nat) : D.lo m (.lst (ks.map fun k => .int (k : Nat))) = true := by
  simp only [D.lo]
  rw [D.los_all, List.all_eq_true]
  intro d hd
  obtain ⟨x, _, rfl⟩ := List.mem_map.mp hd
  rfl
theorem free_ok {t : List Row} (h : Sm t) (f l : Int) (μ : Mem) (hb : μ.all (Cell.below μ.length) = true) : S_free_rooms [dT t, .int f, .int l] μ = .ok (.lst ((freeM t f l).map fun k => .int (k : Nat))) μ := by
  have h0 := h.l
  let mem : List Nat → Mem := fun ks => μ ++ [.lst (ks.map fun k => .int (k : Nat))]
  have at_ : ∀ ks, (mem ks)[μ.length]? = some (.lst (ks.map fun k => .int (k : Nat))) := fun ks => by simp [mem]
  obtain ⟨ρ', μ', h1, d, e1, e2, x4, e3⟩ := forL_inv (gd := none) (a := aNm 4) (b := sIf (Z.tNot (fTru (fTree (fLc (iVal (fIx (fV 0) (fV 4))) (aNm 5) (Z.tAnd (Z.tCmp dLe (fIx (fV 5) (fC (.int 0))) (fV 2)) (Z.tCmp dLe (fV 1) (fIx (fV 5) (fC (.int 1))))) (fV 5) [5])))) (sDrop (fMtT "list" dAppend (fV 3) (fCons (fV 4) fNil))) sNext) (fun k : Nat => D.int (k : Int))
    (fun rest ρ μ' => ∃ d, List.range t.length = d ++ rest ∧ μ' = mem (d.filter (isFree t f l)) ∧ ∃ x4, ρ = [some (dT t), some (.int f), some (.int l), some (.obj μ.length), x4, none]) (List.range t.length) (ρ := [some (dT t), some (.int f), some (.int l), some (.obj μ.length), none, none]) (μ := mem [])
    ⟨[], rfl, rfl, none, rfl⟩ fun k rest ρ μ1 ⟨d, e1, e2, x4, e3⟩ => by
      subst e2; subst e3
      obtain ⟨ed, hk⟩ := range_split e1
      have m := meet_lc h f l [some (dT t), some (.int f), some (.int l), some (.obj μ.length), some (.int (k : Int)), none] (mem (d.filter (isFree t f l))) 0 1 2 4 5 hk rfl rfl rfl rfl (by simp) (by decide) (by decide)
      have tst : Z.tNot (fTru (fTree (fLc (iVal (fIx (fV 0) (fV 4))) (aNm 5) (Z.tAnd (Z.tCmp dLe (fIx (fV 5) (fC (.int 0))) (fV 2)) (Z.tCmp dLe (fV 1) (fIx (fV 5) (fC (.int 1))))) (fV 5) [5]))) [some (dT t), some (.int f), some (.int l), some (.obj μ.length), some (.int (k : Int)), none] (mem (d.filter (isFree t f l))) = .ok (isFree t f l k) (mem (d.filter (isFree t f l))) :=
        not_eq (tru_eq (tree_eq m) (by rw [tru_lst, filt_any]))
      refine ⟨[some (dT t), some (.int f), some (.int l), some (.obj μ.length), some (.int (k : Int)), none], rfl, [some (dT t), some (.int f), some (.int l), some (.obj μ.length), some (.int (k : Int)), none], mem ((d ++ [k]).filter (isFree t f l)), ?_, trivial, d ++ [k], by rw [e1]; simp, rfl, _, rfl⟩
      rw [filter_snoc]
      cases c : isFree t f l k with
      | false =>
        rw [c] at tst
        exact (if_nx tst).trans (by simp)
      | true =>
        rw [c] at tst
        refine (if_t tst).trans (drop_eq (d := .non) ?_)
        rw [mt_list (x := .obj μ.length) (v_eq rfl) (lst_obj (at_ _)), cons1_eq (v_eq rfl), bind_ok]
        have hlen : ((d.filter (isFree t f l)).map fun k => D.int (k : Nat)).length ≤ 1000 := by
          rw [List.length_map]
          refine Nat.le_trans (List.length_filter_le _ _) ?_
          rw [ed, List.length_range]; omega
        rw [append_ok _ (at_ _) hlen]
        simp [mem]
  rw [List.append_nil] at e1
  subst e1; subst e2; subst e3
  have a1 : fBox (fItems fNil) (startD 6 [dT t, .int f, .int l]) μ = .ok (.obj μ.length) (mem []) := box_eq (items_eq nil_eq (by simp))
  have a2 : fFz 3 [some (dT t), some (.int f), some (.int l), some (.obj μ.length), x4, none] (mem (freeM t f l)) = .ok (.lst ((freeM t f l).map fun k => .int (k : Nat))) (μ ++ [.fz (.lst ((freeM t f l).map fun k => .int (k : Nat)))]) := by
    unfold fFz
    rw [v_eq (d := .obj μ.length) rfl, bind_ok]
    unfold frzD
    simp only [at_, Cell.tree]
    simp [mem]
  have body : b_free_rooms (startD 6 [dT t, .int f, .int l]) μ = .ret (.lst ((freeM t f l).map fun k => .int (k : Nat))) (μ ++ [.fz (.lst ((freeM t f l).map fun k => .int (k : Nat)))]) :=
    (seq_nx (set_eq a1)).trans ((seq_nx ((for_eq (rg1_ok ((bi_eq (cons1_eq (v_eq rfl))).trans (lenT t (mem []))) (by omega))).trans h1)).trans (ret_eq a2))
  show cleanD μ (b_free_rooms (startD 6 [dT t, .int f, .int l]) μ) = _
  rw [body]
  exact clean_app _ hb (ints_lo _ _)
end K25

namespace K25
open PySem PySem.Spec Z
/-! ### a stay is put in -/
def paper : Ex := ⟨"InvalidPaper", []⟩
theorem raise_ok (x : Str) (ρ : Z.Env) (μ : Mem) : sRaise "InvalidPaper" (fCons (fC (.str x)) fNil) ρ μ = .exc paper ρ μ := by
  unfold sRaise
  rw [cons1_eq c_eq, s_ok, if_pos (by rw [sizeLine_eq]; simp)]
  rfl
theorem copy_lc {t : List Row} (h : Sm t) (ρ : Z.Env) (μ : Mem) (p i : Nat) (hp : ρ[p]? = some (some (dT t))) (hi : i < ρ.length) : fLc (iVal (fV p)) (aNm i) tYes (fTree (fBl dList (fCons (fV i) fNil))) [i] ρ μ = .ok (t.map dR) μ := by
  refine fLc_yes dR dR (gd := none) (val_eq (v_eq hp) (wkT t μ)) trivial (sl1000 h.l) fun r _ => ?_
  exact ⟨ρ.set i (some (dR r)), by rw [aNm, wipe1], tree_eq ((bl_eq (cons1_eq (v_eq (get_set' hi)))).trans (list_l μ _))⟩
theorem setI_ok {μ : Mem} {n k : Nat} {ds : List D} (c : D) (h : μ[n]? = some (.lst ds)) (hk : k < ds.length) : dSetItem (.obj n) (.int k) c μ = some (μ.set n (.lst (ds.set k c))) := by
  have e : cellL μ (.obj n) = some (n, ds) := by simp [cellL, h]
  have e2 : L2.ixN ds.length (k : Int) = some k := by
    unfold L2.ixN
    simp
    omega
  unfold dSetItem
  simp only [e, e2]
theorem sSetI_ok {o i e : Z.Sem} {ρ : Z.Env} {μ μ' : Mem} {x k c : D} (he : e ρ μ = .ok c μ) (ho : o ρ μ = .ok x μ) (hi : i ρ μ = .ok k μ) (h : dSetItem x k c μ = some μ') : sSetI o i e ρ μ = .next ρ μ' := by
  unfold sSetI
  rw [he, s_ok, ho, s_ok, hi, s_ok, h]
def inRange (k n : Nat) : Bool := decide (k < n)
theorem rng_ok {t : List Row} (ρ : Z.Env) (μ : Mem) (p i : Nat) {k : Nat} (hp : ρ[p]? = some (some (dT t))) (hi : ρ[i]? = some (some (.int k))) :
    Z.tOr (fTru (fIsI .bl (fV i))) (Z.tNot (Z.tChain dLe dLt (fC (.int 0)) (fV i) (fBi dLen (fCons (fV p) fNil)))) ρ μ = .ok (!decide (k < t.length)) μ := by
  have a : fTru (fIsI .bl (fV i)) ρ μ = .ok false μ := by
    refine tru_eq (d := .bl false) ?_ rfl
    unfold fIsI
    rw [v_eq hi, bind_ok]; rfl
  have b : Z.tChain dLe dLt (fC (.int 0)) (fV i) (fBi dLen (fCons (fV p) fNil)) ρ μ = .ok (decide ((0 : Int) ≤ k) && decide ((k : Int) < t.length)) μ := tch_eq c_eq (v_eq hi) ((bi_eq (cons1_eq (v_eq hp))).trans (lenT t μ)) (le_int μ _ _) (lt_int μ _ _)
  refine (or_eq a (not_eq b)).trans ?_
  congr 1
  simp
theorem rng_bl {t : List Row} (ρ : Z.Env) (μ : Mem) (p i : Nat) (hi : ρ[i]? = some (some (.bl true))) :
    Z.tOr (fTru (fIsI .bl (fV i))) (Z.tNot (Z.tChain dLe dLt (fC (.int 0)) (fV i) (fBi dLen (fCons (fV p) fNil)))) ρ μ = .ok true μ := by
  refine tor_t (tru_eq (d := .bl true) ?_ rfl)
  unfold fIsI
  rw [v_eq hi, bind_ok]; rfl
theorem rng_neg {t : List Row} (ρ : Z.Env) (μ : Mem) (p i : Nat) (hp : ρ[p]? = some (some (dT t))) (hi : ρ[i]? = some (some (.int (-1)))) :
    Z.tOr (fTru (fIsI .bl (fV i))) (Z.tNot (Z.tChain dLe dLt (fC (.int 0)) (fV i) (fBi dLen (fCons (fV p) fNil)))) ρ μ = .ok true μ := by
  have a : fTru (fIsI .bl (fV i)) ρ μ = .ok false μ := by
    refine tru_eq (d := .bl false) ?_ rfl
    unfold fIsI
    rw [v_eq hi, bind_ok]; rfl
  have b : Z.tChain dLe dLt (fC (.int 0)) (fV i) (fBi dLen (fCons (fV p) fNil)) ρ μ = .ok (decide ((0 : Int) ≤ -1) && decide ((-1 : Int) < t.length)) μ := tch_eq c_eq (v_eq hi) ((bi_eq (cons1_eq (v_eq hp))).trans (lenT t μ)) (le_int μ _ _) (lt_int μ _ _)
  exact (or_eq a (not_eq b)).trans rfl
theorem in_ints (k : Nat) (ks : List Nat) (μ : Mem) : dIn (.int k) (.lst (ks.map fun k => .int (k : Nat))) μ = some (decide (k ∈ ks)) := by
  have f1 : D.fits 8 (ks.map fun k => D.int (k : Nat)) = true := fits_map _ _ fun s _ => by simp [D.fit]
  show (if D.fits 8 (ks.map fun k => D.int (k : Nat)) = true ∧ D.fit 9 (.int k) = true then some ((ks.map fun k => D.int (k : Nat)).any fun z => D.eqb z (.int k)) else none) = _
  rw [if_pos ⟨f1, by simp [D.fit]⟩, List.any_map]
  congr 1
  rw [Bool.eq_iff_iff]
  simp only [List.any_eq_true, Function.comp_apply, eqb_int, decide_eq_true_eq]
  constructor
  · rintro ⟨x, hx, e⟩
    have : x = k := by omega
    rw [← this]; exact hx
  · intro h; exact ⟨k, h, rfl⟩
def putM (t : List Row) (k : Nat) (s : Stay) : List Row := t.set k (sortS (t.getD k [] ++ [s]))
theorem put_ok {t : List Row} (h : Sm t) {k : Nat} (s : Stay) (μ : Mem) (hb : μ.all (Cell.below μ.length) = true) : S_put_in [dT t, .int k, dS s] μ = if k ∈ freeM t s.a s.b then .ok (dT (putM t k s)) μ else .exc paper μ := by
  show cleanD μ (b_put_in (startD 5 [dT t, .int k, dS s]) μ) = _
  have r0 := rng_ok (t := t) (startD 5 [dT t, .int k, dS s]) μ 0 1 (k := k) rfl rfl
  by_cases hk : k < t.length
  · rw [decide_eq_true hk] at r0
    have fr : fCall S_free_rooms 3 [] (fCons (fV 0) (fCons (fIx (fV 2) (fC (.int 0))) (fCons (fIx (fV 2) (fC (.int 1))) fNil))) (startD 5 [dT t, .int k, dS s]) μ = .ok (.lst ((freeM t s.a s.b).map fun k => .int (k : Nat))) μ :=
      (call_eq (cons_eq (v_eq rfl) (cons_eq ((ix_eq (v_eq rfl) c_eq).trans (ixS0 s μ)) (cons1_eq ((ix_eq (v_eq rfl) c_eq).trans (ixS1 s μ))))) rfl).trans (free_ok h s.a s.b μ hb)
    have ni : Z.tCmp dNotIn (fV 1) (fCall S_free_rooms 3 [] (fCons (fV 0) (fCons (fIx (fV 2) (fC (.int 0))) (fCons (fIx (fV 2) (fC (.int 1))) fNil)))) (startD 5 [dT t, .int k, dS s]) μ = .ok (!decide (k ∈ freeM t s.a s.b)) μ :=
      tc_eq (v_eq rfl) fr (by unfold dNotIn; rw [in_ints]; rfl)
    by_cases hf : k ∈ freeM t s.a s.b
    · rw [decide_eq_true hf] at ni
      rw [if_pos hf]
      have a1 : fBox (fLc (iVal (fV 0)) (aNm 4) tYes (fTree (fBl dList (fCons (fV 4) fNil))) [4]) (startD 5 [dT t, .int k, dS s]) μ = .ok (.obj μ.length) (μ ++ [.lst (t.map dR)]) := box_eq (copy_lc h _ μ 0 4 rfl (by simp [startD]))
      have at_ : (μ ++ [Cell.lst (t.map dR)])[μ.length]? = some (.lst (t.map dR)) := by simp
      have hr : (t.getD k []).length ≤ 1000 := h.r _ (by simp [hk])
      have i1 : fIx (fV 3) (fV 1) [some (dT t), some (.int k), some (dS s), some (.obj μ.length), none] (μ ++ [Cell.lst (t.map dR)]) = .ok (dR (t.getD k [])) (μ ++ [Cell.lst (t.map dR)]) := by
        refine (ix_eq (v_eq rfl) (v_eq rfl)).trans ?_
        rw [ix_obj _ at_, atI_nat (x := dR (t.getD k [])) (by rw [List.getElem?_map, List.getElem?_eq_getElem hk]; simp [hk])]; rfl
      have c1 := cat_ok (a := fIx (fV 3) (fV 1)) (b := fTree (fItems (fCons (fV 2) fNil))) (ρ := [some (dT t), some (.int k), some (dS s), some (.obj μ.length), none]) (μ := μ ++ [Cell.lst (t.map dR)]) i1 (tree_eq (items_eq (cons1_eq (v_eq (d := dS s) rfl)) (by simp))) (by rw [List.length_map, List.length_singleton]; omega)
      have e1 : (t.getD k []).map dS ++ [dS s] = (t.getD k [] ++ [s]).map dS := by simp
      rw [e1] at c1
      have s1 := tree_eq ((bl_eq (op := dSort) (cons1_eq (tree_eq c1))).trans (sort_ok (t.getD k [] ++ [s]) (μ ++ [Cell.lst (t.map dR)])))
      have st := setI_ok (μ := μ ++ [Cell.lst (t.map dR)]) (n := μ.length) (k := k) (dR (sortS (t.getD k [] ++ [s]))) at_ (by simpa using hk)
      have e2 : (μ ++ [Cell.lst (t.map dR)]).set μ.length (.lst ((t.map dR).set k (dR (sortS (t.getD k [] ++ [s]))))) = μ ++ [Cell.lst ((putM t k s).map dR)] := by
        rw [List.set_append_right _ _ (Nat.le_refl _), Nat.sub_self, List.set_cons_zero]
        unfold putM
        rw [List.map_set]
      rw [e2] at st
      have f1 : fFz 3 [some (dT t), some (.int k), some (dS s), some (.obj μ.length), none] (μ ++ [Cell.lst ((putM t k s).map dR)]) = .ok (dT (putM t k s)) (μ ++ [.fz (dT (putM t k s))]) := by
        unfold fFz
        rw [v_eq (d := .obj μ.length) rfl, bind_ok]
        unfold frzD
        have at2 : (μ ++ [Cell.lst ((putM t k s).map dR)])[μ.length]? = some (.lst ((putM t k s).map dR)) := by simp
        simp only [at2, Cell.tree]
        simp [dT]
      have body : b_put_in (startD 5 [dT t, .int k, dS s]) μ = .ret (dT (putM t k s)) (μ ++ [.fz (dT (putM t k s))]) :=
        (seq_nx (if_nx r0)).trans ((seq_nx (if_nx ni)).trans ((seq_nx (set_eq a1)).trans ((seq_nx (sSetI_ok s1 (v_eq rfl) (v_eq rfl) st)).trans (ret_eq f1))))
      rw [body]
      exact clean_app _ hb (lo_T _ _)
    · rw [decide_eq_false hf] at ni
      rw [if_neg hf]
      have body : b_put_in (startD 5 [dT t, .int k, dS s]) μ = .exc paper (startD 5 [dT t, .int k, dS s]) μ := (seq_nx (if_nx r0)).trans (seq_exc ((if_t ni).trans (raise_ok _ _ _)))
      rw [body, clean_exc]
  · have hf : k ∉ freeM t s.a s.b := fun z => hk (List.mem_range.mp (List.mem_filter.mp z).1)
    rw [decide_eq_false hk] at r0
    rw [if_neg hf]
    have body : b_put_in (startD 5 [dT t, .int k, dS s]) μ = .exc paper (startD 5 [dT t, .int k, dS s]) μ := seq_exc ((if_t r0).trans (raise_ok _ _ _))
    rw [body, clean_exc]
theorem put_bl {t : List Row} (x : D) (μ : Mem) : S_put_in [dT t, .bl true, x] μ = .exc paper μ := by
  show cleanD μ (b_put_in (startD 5 [dT t, .bl true, x]) μ) = _
  have r0 := rng_bl (t := t) (startD 5 [dT t, .bl true, x]) μ 0 1 rfl
  have body : b_put_in (startD 5 [dT t, .bl true, x]) μ = .exc paper (startD 5 [dT t, .bl true, x]) μ := seq_exc ((if_t r0).trans (raise_ok _ _ _))
  rw [body, clean_exc]
end K25

namespace K25
open PySem PySem.Spec Z
/-! ### an exchange -/
def ovr (night : Int) (s : Stay) : Bool := decide (s.a < night) && decide (night ≤ s.b)
def early (t : List Row) (night : Int) (k : Nat) : Row := (t.getD k []).filter fun s => decide (s.a < night)
def late (t : List Row) (night : Int) (k : Nat) : Row := (t.getD k []).filter fun s => decide (night ≤ s.a)
def exM (t : List Row) (one other : Nat) (night : Int) : List Row := if one = other then t else (t.set one (early t night one ++ late t night other)).set other (early t night other ++ late t night one)
def noOvr (t : List Row) (night : Int) (k : Nat) : Bool := !(t.getD k []).any (ovr night)
def exOk (t : List Row) (one other : Nat) (night : Int) : Bool := (decide (one < t.length) && noOvr t night one) && (decide (other < t.length) && noOvr t night other)
theorem ovr_lc {t : List Row} (h : Sm t) (night : Int) (ρ : Z.Env) (μ : Mem) (p k s ni : Nat) {x : Nat} (hx : x < t.length) (hp : ρ[p]? = some (some (dT t))) (hk : ρ[k]? = some (some (.int x))) (hn : ρ[ni]? = some (some (.int night))) (hs : s < ρ.length) (n1 : s ≠ ni) :
    fLc (iVal (fIx (fV p) (fV k))) (aNm s) (Z.tChain dLt dLe (fIx (fV s) (fC (.int 0))) (fV ni) (fIx (fV s) (fC (.int 1)))) (fV s) [s] ρ μ = .ok (((t.getD x []).filter (ovr night)).map dS) μ := by
  refine fLc_map dS (ovr night) dS (gd := none) (val_eq ((ix_eq (v_eq hp) (v_eq hk)).trans (ixD hx μ)) (wkR _ μ)) trivial (sl1000 (h.r _ (by simp [hx]))) fun y _ => ?_
  refine ⟨ρ.set s (some (dS y)), by rw [aNm, wipe1], ?_, fun _ => v_eq (get_set' hs)⟩
  exact tch_eq ((ix_eq (v_eq (get_set' hs)) c_eq).trans (ixS0 y μ)) (v_eq (d := .int night) (by rw [get_set n1]; exact hn)) ((ix_eq (v_eq (get_set' hs)) c_eq).trans (ixS1 y μ)) (lt_int μ _ _) (le_int μ _ _)
theorem early_lc {t : List Row} (h : Sm t) (night : Int) (ρ : Z.Env) (μ : Mem) (p k s ni : Nat) {x : Nat} (hx : x < t.length) (hp : ρ[p]? = some (some (dT t))) (hk : ρ[k]? = some (some (.int x))) (hn : ρ[ni]? = some (some (.int night))) (hs : s < ρ.length) (n1 : s ≠ ni) :
    fLc (iVal (fIx (fV p) (fV k))) (aNm s) (Z.tCmp dLt (fIx (fV s) (fC (.int 0))) (fV ni)) (fV s) [s] ρ μ = .ok ((early t night x).map dS) μ := by
  refine fLc_map dS (fun s => decide (s.a < night)) dS (gd := none) (val_eq ((ix_eq (v_eq hp) (v_eq hk)).trans (ixD hx μ)) (wkR _ μ)) trivial (sl1000 (h.r _ (by simp [hx]))) fun y _ => ?_
  refine ⟨ρ.set s (some (dS y)), by rw [aNm, wipe1], ?_, fun _ => v_eq (get_set' hs)⟩
  exact tc_eq ((ix_eq (v_eq (get_set' hs)) c_eq).trans (ixS0 y μ)) (v_eq (d := .int night) (by rw [get_set n1]; exact hn)) (lt_int μ _ _)
theorem late_lc {t : List Row} (h : Sm t) (night : Int) (ρ : Z.Env) (μ : Mem) (p k s ni : Nat) {x : Nat} (hx : x < t.length) (hp : ρ[p]? = some (some (dT t))) (hk : ρ[k]? = some (some (.int x))) (hn : ρ[ni]? = some (some (.int night))) (hs : s < ρ.length) (n1 : s ≠ ni) :
    fLc (iVal (fIx (fV p) (fV k))) (aNm s) (Z.tCmp dGe (fIx (fV s) (fC (.int 0))) (fV ni)) (fV s) [s] ρ μ = .ok ((late t night x).map dS) μ := by
  refine fLc_map dS (fun s => decide (night ≤ s.a)) dS (gd := none) (val_eq ((ix_eq (v_eq hp) (v_eq hk)).trans (ixD hx μ)) (wkR _ μ)) trivial (sl1000 (h.r _ (by simp [hx]))) fun y _ => ?_
  refine ⟨ρ.set s (some (dS y)), by rw [aNm, wipe1], ?_, fun _ => v_eq (get_set' hs)⟩
  exact tc_eq ((ix_eq (v_eq (get_set' hs)) c_eq).trans (ixS0 y μ)) (v_eq (d := .int night) (by rw [get_set n1]; exact hn)) (ge_int μ _ _)
theorem early_len {t : List Row} (h : Sm t) (night : Int) {x : Nat} (hx : x < t.length) : (early t night x).length ≤ 1000 := Nat.le_trans (List.length_filter_le _ _) (h.r _ (by simp [hx]))
theorem late_len {t : List Row} (h : Sm t) (night : Int) {x : Nat} (hx : x < t.length) : (late t night x).length ≤ 1000 := Nat.le_trans (List.length_filter_le _ _) (h.r _ (by simp [hx]))
theorem cell_set (μ : Mem) (t : List Row) (k : Nat) (r : Row) (hk : k < t.length) : dSetItem (.obj μ.length) (.int k) (dR r) (μ ++ [Cell.lst (t.map dR)]) = some (μ ++ [Cell.lst ((t.set k r).map dR)]) := by
  rw [setI_ok (ds := t.map dR) _ (by simp) (by simpa using hk), List.set_append_right _ _ (Nat.le_refl _), Nat.sub_self, List.set_cons_zero, List.map_set]
theorem fz_ok {ρ : Z.Env} {i : Nat} (μ : Mem) (t : List Row) (h : ρ[i]? = some (some (.obj μ.length))) : fFz i ρ (μ ++ [Cell.lst (t.map dR)]) = .ok (dT t) (μ ++ [.fz (dT t)]) := by
  unfold fFz
  rw [v_eq h, bind_ok]
  unfold frzD
  have at2 : (μ ++ [Cell.lst (t.map dR)])[μ.length]? = some (.lst (t.map dR)) := by simp
  simp only [at2, Cell.tree]
  simp [dT]
/-! the judge's exchange -/
theorem exL_ok {t : List Row} (h : Sm t) (h4 : ∀ r ∈ t, r.length ≤ 400) (one other : Nat) (night : Int) (μ : Mem) (hb : μ.all (Cell.below μ.length) = true) :
    S__law_exchanged [dT t, .int one, .int other, .int night] μ = .ok (if exOk t one other night = true then dT (exM t one other night) else .non) μ := by
  show cleanD μ (b__law_exchanged (startD 7 [dT t, .int one, .int other, .int night]) μ) = _
  have r0 : Z.tCmp dGe (fBi dMax2 (fCons (fV 1) (fCons (fV 2) fNil))) (fBi dLen (fCons (fV 0) fNil)) (startD 7 [dT t, .int one, .int other, .int night]) μ = .ok (decide ((t.length : Int) ≤ max (one : Int) (other : Int))) μ :=
    tc_eq ((bi_eq (cons_eq (v_eq rfl) (cons1_eq (v_eq rfl)))).trans (max_int μ _ _)) ((bi_eq (cons1_eq (v_eq rfl))).trans (lenT t μ)) (ge_int μ _ _)
  by_cases hm : one < t.length ∧ other < t.length
  · obtain ⟨h1, h2⟩ := hm
    have hn : ¬ ((t.length : Int) ≤ max (one : Int) (other : Int)) := by omega
    rw [decide_eq_false hn] at r0
    have ca := cat_ok (a := fIx (fV 0) (fV 1)) (b := fIx (fV 0) (fV 2)) (ρ := startD 7 [dT t, .int one, .int other, .int night]) (μ := μ) ((ix_eq (v_eq rfl) (v_eq rfl)).trans (ixD h1 μ)) ((ix_eq (v_eq rfl) (v_eq rfl)).trans (ixD h2 μ)) (by
      rw [List.length_map, List.length_map]
      have := h.r (t.getD one []) (by simp [h1]); have := h.r (t.getD other []) (by simp [h2]); omega)
    have e0 : (t.getD one []).map dS ++ (t.getD other []).map dS = (t.getD one [] ++ t.getD other []).map dS := by simp
    rw [e0] at ca
    have ov : fLc (iVal (fTree (fCat (fIx (fV 0) (fV 1)) (fIx (fV 0) (fV 2))))) (aNm 4) (Z.tChain dLt dLe (fIx (fV 4) (fC (.int 0))) (fV 3) (fIx (fV 4) (fC (.int 1)))) (fV 4) [4] (startD 7 [dT t, .int one, .int other, .int night]) μ = .ok (((t.getD one [] ++ t.getD other []).filter (ovr night)).map dS) μ := by
      refine fLc_map dS (ovr night) dS (gd := none) (val_eq (tree_eq ca) (wk_l μ _)) trivial (sl1000 (n := (t.getD one [] ++ t.getD other []).length) ?_) fun y _ => ?_
      · rw [List.length_append]
        have := h4 (t.getD one []) (by simp [h1]); have := h4 (t.getD other []) (by simp [h2]); omega
      · refine ⟨[some (dT t), some (.int one), some (.int other), some (.int night), some (dS y), none, none], rfl, ?_, fun _ => v_eq rfl⟩
        exact tch_eq ((ix_eq (v_eq rfl) c_eq).trans (ixS0 y μ)) (v_eq rfl) ((ix_eq (v_eq rfl) c_eq).trans (ixS1 y μ)) (lt_int μ _ _) (le_int μ _ _)
    have tst : Z.tCmp dGt (fBi dLen (fCons (fTree (fLc (iVal (fTree (fCat (fIx (fV 0) (fV 1)) (fIx (fV 0) (fV 2))))) (aNm 4) (Z.tChain dLt dLe (fIx (fV 4) (fC (.int 0))) (fV 3) (fIx (fV 4) (fC (.int 1)))) (fV 4) [4])) fNil)) (fC (.int 0)) (startD 7 [dT t, .int one, .int other, .int night]) μ = .ok ((t.getD one []).any (ovr night) || (t.getD other []).any (ovr night)) μ := by
      refine tc_eq ((bi_eq (cons1_eq (tree_eq ov))).trans (len_lst _ μ)) c_eq ?_
      rw [gt_int, ← List.any_append, ← filt_any (ovr night) dS]
      cases (t.getD one [] ++ t.getD other []).filter (ovr night) with
      | nil => simp
      | cons a b => simp
    have eo : exOk t one other night = !((t.getD one []).any (ovr night) || (t.getD other []).any (ovr night)) := by
      unfold exOk noOvr
      rw [decide_eq_true h1, decide_eq_true h2]
      simp
    rw [eo]
    cases co : (t.getD one []).any (ovr night) || (t.getD other []).any (ovr night) with
    | true =>
      rw [co] at tst
      have body : b__law_exchanged (startD 7 [dT t, .int one, .int other, .int night]) μ = .ret .non μ := (seq_nx (if_nx r0)).trans (seq_ret ((if_t tst).trans (ret_eq c_eq)))
      rw [body, clean_ret]; rfl
    | false =>
      rw [co] at tst
      have a1 : fBox (fLc (iVal (fV 0)) (aNm 6) tYes (fTree (fBl dList (fCons (fV 6) fNil))) [6]) (startD 7 [dT t, .int one, .int other, .int night]) μ = .ok (.obj μ.length) (μ ++ [.lst (t.map dR)]) := box_eq (copy_lc h _ μ 0 6 rfl (by simp [startD]))
      have r1 : Z.tCmp dNe (fV 1) (fV 2) [some (dT t), some (.int one), some (.int other), some (.int night), none, some (.obj μ.length), none] (μ ++ [.lst (t.map dR)]) = .ok (!decide ((one : Int) = other)) (μ ++ [.lst (t.map dR)]) := tc_eq (v_eq rfl) (v_eq rfl) (dNe_int _ _ _)
      by_cases ce : one = other
      · have ce' : (one : Int) = other := by omega
        rw [decide_eq_true ce'] at r1
        have body : b__law_exchanged (startD 7 [dT t, .int one, .int other, .int night]) μ = .ret (dT t) (μ ++ [.fz (dT t)]) :=
          (seq_nx (if_nx r0)).trans ((seq_nx (if_nx tst)).trans ((seq_nx (set_eq a1)).trans ((seq_nx (if_nx r1)).trans (ret_eq (fz_ok μ t rfl)))))
        rw [body]
        have em : exM t one other night = t := by unfold exM; rw [if_pos ce]
        simp only [Bool.not_false, if_true, em]
        exact clean_app _ hb (lo_T _ _)
      · have ce' : ¬ (one : Int) = other := by omega
        rw [decide_eq_false ce'] at r1
        have L : ∀ (μ' : Mem) (x y : Nat), x < t.length → y < t.length → ∀ kx ky : Nat, (kx = 1 ∨ kx = 2) → (ky = 1 ∨ ky = 2) → [some (dT t), some (D.int one), some (D.int other), some (D.int night), none, some (D.obj μ.length), none][kx]? = some (some (.int x)) → [some (dT t), some (D.int one), some (D.int other), some (D.int night), none, some (D.obj μ.length), none][ky]? = some (some (.int y)) →
            fTree (fCat (fTree (fLc (iVal (fIx (fV 0) (fV kx))) (aNm 4) (Z.tCmp dLt (fIx (fV 4) (fC (.int 0))) (fV 3)) (fV 4) [4])) (fTree (fLc (iVal (fIx (fV 0) (fV ky))) (aNm 4) (Z.tCmp dGe (fIx (fV 4) (fC (.int 0))) (fV 3)) (fV 4) [4]))) [some (dT t), some (.int one), some (.int other), some (.int night), none, some (.obj μ.length), none] μ' = .ok (dR (early t night x ++ late t night y)) μ' := fun μ' x y hx hy kx ky _ _ gx gy => by
          have c := cat_ok (tree_eq (early_lc h night [some (dT t), some (.int one), some (.int other), some (.int night), none, some (.obj μ.length), none] μ' 0 kx 4 3 hx rfl gx rfl (by simp) (by decide))) (tree_eq (late_lc h night [some (dT t), some (.int one), some (.int other), some (.int night), none, some (.obj μ.length), none] μ' 0 ky 4 3 hy rfl gy rfl (by simp) (by decide))) (by
            rw [List.length_map, List.length_map]
            have := early_len h night hx; have := late_len h night hy; omega)
          rw [tree_eq c, ← List.map_append]; rfl
        have s1 := sSetI_ok (L (μ ++ [.lst (t.map dR)]) one other h1 h2 1 2 (.inl rfl) (.inr rfl) rfl rfl) (v_eq (i := 5) rfl) (v_eq (i := 1) rfl) (cell_set μ t one _ h1)
        have s2 := sSetI_ok (L (μ ++ [.lst ((t.set one (early t night one ++ late t night other)).map dR)]) other one h2 h1 2 1 (.inr rfl) (.inl rfl) rfl rfl) (v_eq (i := 5) rfl) (v_eq (i := 2) rfl) (cell_set μ (t.set one (early t night one ++ late t night other)) other _ (by rw [List.length_set]; exact h2))
        have em : exM t one other night = (t.set one (early t night one ++ late t night other)).set other (early t night other ++ late t night one) := by unfold exM; rw [if_neg ce]
        have body : b__law_exchanged (startD 7 [dT t, .int one, .int other, .int night]) μ = .ret (dT (exM t one other night)) (μ ++ [.fz (dT (exM t one other night))]) := by
          rw [em]
          exact (seq_nx (if_nx r0)).trans ((seq_nx (if_nx tst)).trans ((seq_nx (set_eq a1)).trans ((seq_nx ((if_t r1).trans ((seq_nx s1).trans s2))).trans (ret_eq (fz_ok μ _ rfl)))))
        rw [body]
        simp only [Bool.not_false, if_true]
        exact clean_app _ hb (lo_T _ _)
  · have hn : (t.length : Int) ≤ max (one : Int) (other : Int) := by omega
    rw [decide_eq_true hn] at r0
    have ho : exOk t one other night = false := by
      unfold exOk
      by_cases c : one < t.length
      · have c2 : ¬ other < t.length := fun z => hm ⟨c, z⟩
        simp [c2]
      · simp [c]
    have body : b__law_exchanged (startD 7 [dT t, .int one, .int other, .int night]) μ = .ret .non μ := seq_ret ((if_t r0).trans (ret_eq c_eq))
    rw [body, clean_ret, ho]; rfl
/-! the program's -/
noncomputable def bE : SemS := sSeq (sIf (Z.tOr (fTru (fIsI .bl (fV 4))) (Z.tNot (Z.tChain dLe dLt (fC (.int 0)) (fV 4) (fBi dLen (fCons (fV 0) fNil))))) (sRaise "InvalidPaper" (fCons (fC (.str "no room")) fNil)) sNext) (sIf (fTru (fTree (fLc (iVal (fIx (fV 0) (fV 4))) (aNm 5) (Z.tChain dLt dLe (fIx (fV 5) (fC (.int 0))) (fV 3) (fIx (fV 5) (fC (.int 1)))) (fV 5) [5]))) (sRaise "InvalidPaper" (fCons (fC (.str "over the night")) fNil)) sNext)
def eE (t : List Row) (one other : Nat) (night : Int) (x : Option D) : Z.Env := [some (dT t), some (.int one), some (.int other), some (.int night), x, none, none, none, none, none]
theorem bE_ok {t : List Row} (h : Sm t) (one other : Nat) (night : Int) (k : Nat) (μ : Mem) : bE (eE t one other night (some (.int k))) μ = if (decide (k < t.length) && noOvr t night k) = true then .next (eE t one other night (some (.int k))) μ else .exc paper (eE t one other night (some (.int k))) μ := by
  have r0 := rng_ok (t := t) (eE t one other night (some (.int k))) μ 0 4 (k := k) rfl rfl
  by_cases hk : k < t.length
  · rw [decide_eq_true hk] at r0
    have ov := ovr_lc h night (eE t one other night (some (.int k))) μ 0 4 5 3 hk rfl rfl rfl (by simp [eE]) (by decide)
    have tst := tru_eq (tree_eq ov) (tru_lst μ _)
    rw [filt_any] at tst
    cases c : (t.getD k []).any (ovr night) with
    | true =>
      rw [c] at tst
      have e : noOvr t night k = false := by unfold noOvr; rw [c]; rfl
      rw [e, Bool.and_false, if_neg (by simp)]
      exact (seq_nx (if_nx r0)).trans ((if_t tst).trans (raise_ok _ _ _))
    | false =>
      rw [c] at tst
      have e : noOvr t night k = true := by unfold noOvr; rw [c]; rfl
      rw [e, decide_eq_true hk, Bool.and_self, if_pos rfl]
      exact (seq_nx (if_nx r0)).trans (if_nx tst)
  · rw [decide_eq_false hk] at r0
    rw [decide_eq_false hk, Bool.false_and, if_neg (by simp)]
    exact seq_exc ((if_t r0).trans (raise_ok _ _ _))
theorem two_lc {e : Z.Sem} {ρ : Z.Env} {μ : Mem} {i one other x : Nat} {y z : D} (h1 : ρ[one]? = some (some (.int i))) (h2 : ρ[other]? = some (some (.int x))) (k : Nat) (e1 : e ((wipeD ρ [k]).set k (some (.int i))) μ = .ok y μ) (e2 : e ((wipeD ρ [k]).set k (some (.int x))) μ = .ok z μ) : fLc (iVal (fTup (fCons (fV one) (fCons (fV other) fNil)))) (aNm k) tYes e [k] ρ μ = .ok [y, z] μ := by
  have hi : iVal (fTup (fCons (fV one) (fCons (fV other) fNil))) ρ μ = .ok ⟨[.int i, .int x], none⟩ μ := val_eq (tup_eq (cons_eq (v_eq h1) (cons1_eq (v_eq h2))) (by simp)) (wk_t μ _)
  unfold fLc
  rw [hi, bind_ok, if_pos (sl1000 (by simp))]
  have g : ∀ μ : Mem, Grd.ok none μ := fun _ => trivial
  simp only [lcL, aNm, tYes, R.bindB, e1, e2, if_true, lcG, if_pos (g μ)]
theorem exP_ok {t : List Row} (h : Sm t) (one other : Nat) (night : Int) (μ : Mem) (hb : μ.all (Cell.below μ.length) = true) :
    S_exchange [dT t, .int one, .int other, .int night] μ = if exOk t one other night = true then .ok (dT (exM t one other night)) μ else .exc paper μ := by
  show cleanD μ (b_exchange (startD 10 [dT t, .int one, .int other, .int night]) μ) = _
  have hi : iVal (fTup (fCons (fV 1) (fCons (fV 2) fNil))) (startD 10 [dT t, .int one, .int other, .int night]) μ = .ok ⟨[.int one, .int other], none⟩ μ := val_eq (tup_eq (cons_eq (v_eq rfl) (cons1_eq (v_eq rfl))) (by simp)) (wk_t μ _)
  have g : ∀ μ : Mem, Grd.ok none μ := fun _ => trivial
  have b1 := bE_ok h one other night one μ
  have b2 := bE_ok h one other night other μ
  have st : ∀ x : Option D, ∀ d : D, aNm 4 d (eE t one other night x) = some (eE t one other night (some d)) := fun _ _ => rfl
  have e0 : startD 10 [dT t, .int one, .int other, .int night] = eE t one other night none := rfl
  unfold exOk
  cases c1 : decide (one < t.length) && noOvr t night one with
  | false =>
    rw [c1, if_neg (by simp)] at b1
    have lp : forL none (aNm 4) bE [.int one, .int other] (eE t one other night none) μ = .exc paper (eE t one other night (some (.int one))) μ := by
      simp only [forL, st, b1]
    have body : b_exchange (startD 10 [dT t, .int one, .int other, .int night]) μ = .exc paper (eE t one other night (some (.int one))) μ := seq_exc ((for_eq hi).trans lp)
    rw [body, clean_exc]; rfl
  | true =>
    rw [c1, if_pos rfl] at b1
    cases c2 : decide (other < t.length) && noOvr t night other with
    | false =>
      rw [c2, if_neg (by simp)] at b2
      have lp : forL none (aNm 4) bE [.int one, .int other] (eE t one other night none) μ = .exc paper (eE t one other night (some (.int other))) μ := by
        simp only [forL, st, b1, forG, if_pos (g μ), b2]
      have body : b_exchange (startD 10 [dT t, .int one, .int other, .int night]) μ = .exc paper (eE t one other night (some (.int other))) μ := seq_exc ((for_eq hi).trans lp)
      rw [body, clean_exc]; rfl
    | true =>
      rw [c2, if_pos rfl] at b2
      have h1 : one < t.length := by
        rw [Bool.and_eq_true] at c1
        exact of_decide_eq_true c1.1
      have h2 : other < t.length := by
        rw [Bool.and_eq_true] at c2
        exact of_decide_eq_true c2.1
      have lp : forL none (aNm 4) bE [.int one, .int other] (eE t one other night none) μ = .next (eE t one other night (some (.int other))) μ := by
        simp only [forL, st, b1, forG, if_pos (g μ), b2]
      have a1 : fBox (fLc (iVal (fV 0)) (aNm 7) tYes (fTree (fBl dList (fCons (fV 7) fNil))) [7]) (eE t one other night (some (.int other))) μ = .ok (.obj μ.length) (μ ++ [.lst (t.map dR)]) := box_eq (copy_lc h _ μ 0 7 rfl (by simp [eE]))
      let ρ3 : Z.Env := [some (dT t), some (.int one), some (.int other), some (.int night), some (.int other), none, some (.obj μ.length), none, none, none]
      let μ1 : Mem := μ ++ [.lst (t.map dR)]
      have r1 : Z.tCmp dNe (fV 1) (fV 2) ρ3 μ1 = .ok (!decide ((one : Int) = other)) μ1 := tc_eq (v_eq rfl) (v_eq rfl) (dNe_int _ _ _)
      simp only [Bool.and_self, if_true]
      by_cases ce : one = other
      · have ce' : (one : Int) = other := by omega
        rw [decide_eq_true ce'] at r1
        have body : b_exchange (startD 10 [dT t, .int one, .int other, .int night]) μ = .ret (dT t) (μ ++ [.fz (dT t)]) :=
          (seq_nx ((for_eq hi).trans lp)).trans ((seq_nx (set_eq a1)).trans ((seq_nx (if_nx r1)).trans (ret_eq (fz_ok μ t rfl))))
        have em : exM t one other night = t := by unfold exM; rw [if_pos ce]
        rw [body, em]
        exact clean_app _ hb (lo_T _ _)
      · have ce' : ¬ (one : Int) = other := by omega
        rw [decide_eq_false ce'] at r1
        have q1 : fLc (iVal (fTup (fCons (fV 1) (fCons (fV 2) fNil)))) (aNm 4) tYes (fTree (fLc (iVal (fIx (fV 0) (fV 4))) (aNm 5) (Z.tCmp dLt (fIx (fV 5) (fC (.int 0))) (fV 3)) (fV 5) [5])) [4] ρ3 μ1 = .ok [dR (early t night one), dR (early t night other)] μ1 :=
          two_lc (i := one) (x := other) rfl rfl 4 (tree_eq (early_lc h night _ μ1 0 4 5 3 h1 rfl rfl rfl (by simp [ρ3, wipeD]) (by decide))) (tree_eq (early_lc h night _ μ1 0 4 5 3 h2 rfl rfl rfl (by simp [ρ3, wipeD]) (by decide)))
        let ρ4 : Z.Env := [some (dT t), some (.int one), some (.int other), some (.int night), some (.int other), none, some (.obj μ.length), none, some (.lst [dR (early t night one), dR (early t night other)]), none]
        have q2 : fLc (iVal (fTup (fCons (fV 1) (fCons (fV 2) fNil)))) (aNm 4) tYes (fTree (fLc (iVal (fIx (fV 0) (fV 4))) (aNm 5) (Z.tCmp dGe (fIx (fV 5) (fC (.int 0))) (fV 3)) (fV 5) [5])) [4] ρ4 μ1 = .ok [dR (late t night one), dR (late t night other)] μ1 :=
          two_lc (i := one) (x := other) rfl rfl 4 (tree_eq (late_lc h night _ μ1 0 4 5 3 h1 rfl rfl rfl (by simp [ρ4, wipeD]) (by decide))) (tree_eq (late_lc h night _ μ1 0 4 5 3 h2 rfl rfl rfl (by simp [ρ4, wipeD]) (by decide)))
        let ρ5 : Z.Env := [some (dT t), some (.int one), some (.int other), some (.int night), some (.int other), none, some (.obj μ.length), none, some (.lst [dR (early t night one), dR (early t night other)]), some (.lst [dR (late t night one), dR (late t night other)])]
        have k1 : ∀ μ', fTree (fCat (fIx (fV 8) (fC (.int 0))) (fIx (fV 9) (fC (.int 1)))) ρ5 μ' = .ok (dR (early t night one ++ late t night other)) μ' := fun μ' => by
          have c := cat_ok (a := fIx (fV 8) (fC (.int 0))) (b := fIx (fV 9) (fC (.int 1))) (ρ := ρ5) (μ := μ') (xs := (early t night one).map dS) (ys := (late t night other).map dS) ((ix_eq (v_eq rfl) c_eq).trans rfl) ((ix_eq (v_eq rfl) c_eq).trans rfl) (by
            rw [List.length_map, List.length_map]
            have := early_len h night h1; have := late_len h night h2; omega)
          rw [tree_eq c, ← List.map_append]; rfl
        have k2 : ∀ μ', fTree (fCat (fIx (fV 8) (fC (.int 1))) (fIx (fV 9) (fC (.int 0)))) ρ5 μ' = .ok (dR (early t night other ++ late t night one)) μ' := fun μ' => by
          have c := cat_ok (a := fIx (fV 8) (fC (.int 1))) (b := fIx (fV 9) (fC (.int 0))) (ρ := ρ5) (μ := μ') (xs := (early t night other).map dS) (ys := (late t night one).map dS) ((ix_eq (v_eq rfl) c_eq).trans rfl) ((ix_eq (v_eq rfl) c_eq).trans rfl) (by
            rw [List.length_map, List.length_map]
            have := early_len h night h2; have := late_len h night h1; omega)
          rw [tree_eq c, ← List.map_append]; rfl
        have s1 := sSetI_ok (k1 μ1) (v_eq (i := 6) rfl) (v_eq (i := 1) rfl) (cell_set μ t one _ h1)
        have s2 := sSetI_ok (k2 (μ ++ [.lst ((t.set one (early t night one ++ late t night other)).map dR)])) (v_eq (i := 6) rfl) (v_eq (i := 2) rfl) (cell_set μ (t.set one (early t night one ++ late t night other)) other _ (by rw [List.length_set]; exact h2))
        have em : exM t one other night = (t.set one (early t night one ++ late t night other)).set other (early t night other ++ late t night one) := by unfold exM; rw [if_neg ce]
        have body : b_exchange (startD 10 [dT t, .int one, .int other, .int night]) μ = .ret (dT (exM t one other night)) (μ ++ [.fz (dT (exM t one other night))]) := by
          rw [em]
          exact (seq_nx ((for_eq hi).trans lp)).trans ((seq_nx (set_eq a1)).trans ((seq_nx ((if_t r1).trans ((seq_nx (set_eq (tree_eq q1))).trans ((seq_nx (set_eq (tree_eq q2))).trans ((seq_nx s1).trans s2))))).trans (ret_eq (fz_ok μ _ rfl))))
        rw [body]
        exact clean_app _ hb (lo_T _ _)
end K25

namespace K25
open PySem PySem.Spec Z
/-! ### what is told by the defs that may raise -/
theorem cat_paper : cat_InvalidPaper (Str.ofString "InvalidPaper") = some true := by unfold cat_InvalidPaper; rw [if_pos rfl]
noncomputable def bT0 : SemS := sRet (fIf (Z.tCmp dEq (fV 0) (fC (.int 0))) (fCall S_put_in 3 [] (fCons (fV 1) (fCons (fV 2) (fCons (fV 4) fNil)))) (fCall S_exchange 4 [] (fCons (fV 1) (fCons (fV 2) (fCons (fV 3) (fCons (fV 4) fNil))))))
theorem told_of {a b c d e x : D} {μ : Mem} (h : bT0 [some a, some b, some c, some d, some e] μ = .ret x μ) : S__law_told [a, b, c, d, e] μ = .ok x μ := by
  show cleanD μ (sTryOnly cat_InvalidPaper bT0 (sRet (fC .non)) [some a, some b, some c, some d, some e] μ) = _
  unfold sTryOnly
  rw [h]
  exact clean_ret μ x
theorem told_exc {a b c d e : D} {μ : Mem} {ρ : Z.Env} (h : bT0 [some a, some b, some c, some d, some e] μ = .exc paper ρ μ) : S__law_told [a, b, c, d, e] μ = .ok .non μ := by
  show cleanD μ (sTryOnly cat_InvalidPaper bT0 (sRet (fC .non)) [some a, some b, some c, some d, some e] μ) = _
  unfold sTryOnly
  rw [h]
  have e1 : cat_InvalidPaper paper.cls = some true := cat_paper
  simp only [e1]
  exact (congrArg (cleanD μ) (ret_eq c_eq)).trans (clean_ret μ .non)
theorem told_put {t : List Row} (h : Sm t) (k : Nat) (z : D) (s : Stay) (μ : Mem) (hb : μ.all (Cell.below μ.length) = true) : S__law_told [.int 0, dT t, .int k, z, dS s] μ = .ok (if k ∈ freeM t s.a s.b then dT (putM t k s) else .non) μ := by
  have c : fCall S_put_in 3 [] (fCons (fV 1) (fCons (fV 2) (fCons (fV 4) fNil))) [some (.int 0), some (dT t), some (.int k), some z, some (dS s)] μ = _ := (call_eq (cons_eq (v_eq rfl) (cons_eq (v_eq rfl) (cons1_eq (v_eq rfl)))) rfl).trans (put_ok h s μ hb)
  have t0 : Z.tCmp dEq (fV 0) (fC (.int 0)) [some (.int 0), some (dT t), some (.int k), some z, some (dS s)] μ = .ok true μ := tc_eq (v_eq rfl) c_eq (dEq_int _ _ μ)
  by_cases hf : k ∈ freeM t s.a s.b
  · rw [if_pos hf] at c ⊢
    exact told_of (ret_eq ((fif_t t0).trans c))
  · rw [if_neg hf] at c ⊢
    exact told_exc (ret_exc ((fif_t t0).trans c))
theorem told_put_bl {t : List Row} (z x : D) (μ : Mem) : S__law_told [.int 0, dT t, .bl true, z, x] μ = .ok .non μ := by
  have c : fCall S_put_in 3 [] (fCons (fV 1) (fCons (fV 2) (fCons (fV 4) fNil))) [some (.int 0), some (dT t), some (.bl true), some z, some x] μ = _ := (call_eq (cons_eq (v_eq rfl) (cons_eq (v_eq rfl) (cons1_eq (v_eq rfl)))) rfl).trans (put_bl (t := t) x μ)
  have t0 : Z.tCmp dEq (fV 0) (fC (.int 0)) [some (.int 0), some (dT t), some (.bl true), some z, some x] μ = .ok true μ := tc_eq (v_eq rfl) c_eq (dEq_int _ _ μ)
  exact told_exc (ret_exc ((fif_t t0).trans c))
theorem told_ex {t : List Row} (h : Sm t) (one other : Nat) (night : Int) (μ : Mem) (hb : μ.all (Cell.below μ.length) = true) : S__law_told [.int 1, dT t, .int one, .int other, .int night] μ = .ok (if exOk t one other night = true then dT (exM t one other night) else .non) μ := by
  have c : fCall S_exchange 4 [] (fCons (fV 1) (fCons (fV 2) (fCons (fV 3) (fCons (fV 4) fNil)))) [some (.int 1), some (dT t), some (.int one), some (.int other), some (.int night)] μ = _ := (call_eq (cons_eq (v_eq rfl) (cons_eq (v_eq rfl) (cons_eq (v_eq rfl) (cons1_eq (v_eq rfl))))) rfl).trans (exP_ok h one other night μ hb)
  have t0 : Z.tCmp dEq (fV 0) (fC (.int 0)) [some (.int 1), some (dT t), some (.int one), some (.int other), some (.int night)] μ = .ok false μ := tc_eq (v_eq rfl) c_eq (dEq_int _ _ μ)
  by_cases hf : exOk t one other night = true
  · rw [if_pos hf] at c ⊢
    exact told_of (ret_eq ((fif_f t0).trans c))
  · rw [if_neg hf] at c ⊢
    exact told_exc (ret_exc ((fif_f t0).trans c))
theorem exP_neg {t : List Row} (y z : D) (μ : Mem) : S_exchange [dT t, .int (-1), .int 0, z] μ = .exc paper μ := by
  show cleanD μ (b_exchange (startD 10 [dT t, .int (-1), .int 0, z]) μ) = _
  have hi : iVal (fTup (fCons (fV 1) (fCons (fV 2) fNil))) (startD 10 [dT t, .int (-1), .int 0, z]) μ = .ok ⟨[.int (-1), .int 0], none⟩ μ := val_eq (tup_eq (cons_eq (v_eq rfl) (cons1_eq (v_eq rfl))) (by simp)) (wk_t μ _)
  have r0 := rng_neg (t := t) [some (dT t), some (.int (-1)), some (.int 0), some z, some (.int (-1)), none, none, none, none, none] μ 0 4 rfl rfl
  have b1 : bE [some (dT t), some (.int (-1)), some (.int 0), some z, some (.int (-1)), none, none, none, none, none] μ = .exc paper [some (dT t), some (.int (-1)), some (.int 0), some z, some (.int (-1)), none, none, none, none, none] μ := seq_exc ((if_t r0).trans (raise_ok _ _ _))
  have st : aNm 4 (.int (-1)) (startD 10 [dT t, .int (-1), .int 0, z]) = some [some (dT t), some (.int (-1)), some (.int 0), some z, some (.int (-1)), none, none, none, none, none] := rfl
  have lp : forL none (aNm 4) bE [.int (-1), .int 0] (startD 10 [dT t, .int (-1), .int 0, z]) μ = .exc paper [some (dT t), some (.int (-1)), some (.int 0), some z, some (.int (-1)), none, none, none, none, none] μ := by
    simp only [forL, st, b1]
  have body : b_exchange (startD 10 [dT t, .int (-1), .int 0, z]) μ = .exc paper [some (dT t), some (.int (-1)), some (.int 0), some z, some (.int (-1)), none, none, none, none, none] μ := seq_exc ((for_eq hi).trans lp)
  rw [body, clean_exc]
theorem told_ex_neg {t : List Row} (z : D) (μ : Mem) : S__law_told [.int 1, dT t, .int (-1), .int 0, z] μ = .ok .non μ := by
  have c : fCall S_exchange 4 [] (fCons (fV 1) (fCons (fV 2) (fCons (fV 3) (fCons (fV 4) fNil)))) [some (.int 1), some (dT t), some (.int (-1)), some (.int 0), some z] μ = _ := (call_eq (cons_eq (v_eq rfl) (cons_eq (v_eq rfl) (cons_eq (v_eq rfl) (cons1_eq (v_eq rfl))))) rfl).trans (exP_neg (t := t) z z μ)
  have t0 : Z.tCmp dEq (fV 0) (fC (.int 0)) [some (.int 1), some (dT t), some (.int (-1)), some (.int 0), some z] μ = .ok false μ := tc_eq (v_eq rfl) c_eq (dEq_int _ _ μ)
  exact told_exc (ret_exc ((fif_f t0).trans c))
/-! ### the stays -/
structure Good (s : Stay) : Prop extends StOk s where
  le : s.a ≤ s.b
theorem fLc_yes2 {α : Type} {i : SemI} {a : Tgt} {e : Z.Sem} {own : List Nat} {ρ : Z.Env} {μ μ' : Mem} {gd : Grd} (toD : α → D) (f : α → D) {xs : List α} (hi : i ρ μ = .ok ⟨xs.map toD, gd⟩ μ') (hg : gd.ok μ') (hl : xs.length ≤ 1000)
    (h : ∀ x ∈ xs, ∃ ρ1, a (toD x) (wipeD ρ own) = some ρ1 ∧ e ρ1 μ' = .ok (f x) μ') : fLc i a tYes e own ρ μ = .ok (xs.map f) μ' := by
  unfold fLc
  rw [hi, bind_ok, if_pos (by rw [List.length_map]; exact sl1000 hl)]
  exact lcL_yes toD f hg xs h
noncomputable def bS : SemS := sSeq (sSet 3 (fCall S__law_take 2 [] (fCons (fV 0) (fCons (fC (.int 10)) fNil)))) (sSeq (sSet 4 (fOp2 dAdd (fV 3) (fCall S__law_take 2 [] (fCons (fV 0) (fCons (fC (.int 5)) fNil))))) (sSet 1 (fTree (fCat (fV 1) (fTree (fLc (iRg1 (fCall S__law_take 2 [] (fCons (fV 0) (fCons (fC (.int 3)) fNil)))) (aNm 5) tYes (fTup (fCons (fV 3) (fCons (fV 4) (fCons (fV 2) (fCons (fOp2 dAdd (fV 5) (fC (.int 1))) fNil))))) [5]))))))
theorem take_call (ns : List Int) (k : Nat) (v : Int) (m : Nat) (hm : 0 < m) (hm2 : m < 2 ^ 60) (hk : k < 1000) : ∃ (r k' : Nat) (v' : Int), r < m ∧ k' ≤ k + 1 ∧ ∀ (ρ : Z.Env) (i : Nat) (e : Z.Sem), ρ[i]? = some (some (.obj 0)) → e ρ (Ms ns k v) = .ok (.int m) (Ms ns k v) → fCall S__law_take 2 [] (fCons (fV i) (fCons e fNil)) ρ (Ms ns k v) = .ok (.int r) (Ms ns k' v') := by
  obtain ⟨r, k', v', h1, h2, h3⟩ := take_ok ns k v hm hm2 (by omega)
  exact ⟨r, k', v', h2, h3, fun ρ i e hi he => (call_eq (cons_eq (v_eq hi) (cons1_eq he)) rfl).trans h1⟩
theorem bS_ok (ns : List Int) (k : Nat) (v : Int) (hk : k < 900) (found : Row) (n : Str) (hn : n.length ≤ 2) (hl : found.length ≤ 100) (hg : ∀ s ∈ found, Good s) (x3 x4 x5 : Option D) :
    ∃ (k' : Nat) (v' : Int) (found' : Row) (x3' x4' : Option D), bS [some (.obj 0), some (dR found), some (.str n), x3, x4, x5] (Ms ns k v) = .next [some (.obj 0), some (dR found'), some (.str n), x3', x4', x5] (Ms ns k' v') ∧ k' ≤ k + 3 ∧ found'.length ≤ found.length + 2 ∧ ∀ s ∈ found', Good s := by
  obtain ⟨r1, k1, v1, a1, b1, c1⟩ := take_call ns k v 10 (by decide) (by decide) (by omega)
  obtain ⟨r2, k2, v2, a2, b2, c2⟩ := take_call ns k1 v1 5 (by decide) (by decide) (by omega)
  obtain ⟨r3, k3, v3, a3, b3, c3⟩ := take_call ns k2 v2 3 (by decide) (by decide) (by omega)
  let f : Nat → Stay := fun i => ⟨r1, (r1 : Int) + r2, n, (i : Int) + 1⟩
  have e1 := c1 [some (.obj 0), some (dR found), some (.str n), x3, x4, x5] 0 (fC (.int 10)) rfl rfl
  have e2 := c2 [some (.obj 0), some (dR found), some (.str n), some (.int r1), x4, x5] 0 (fC (.int 5)) rfl rfl
  have e3 := c3 [some (.obj 0), some (dR found), some (.str n), some (.int r1), some (.int ((r1 : Int) + r2)), x5] 0 (fC (.int 3)) rfl rfl
  have s2 := (op2_eq (op := dAdd) (f := fV 3) (v_eq rfl) e2).trans (add_int (Ms ns k2 v2) _ _)
  have lc := fLc_yes2 (a := aNm 5) (own := [5]) (e := fTup (fCons (fV 3) (fCons (fV 4) (fCons (fV 2) (fCons (fOp2 dAdd (fV 5) (fC (.int 1))) fNil))))) (ρ := [some (.obj 0), some (dR found), some (.str n), some (.int r1), some (.int ((r1 : Int) + r2)), x5]) (fun i : Nat => D.int (i : Int)) (fun i => dS (f i)) (xs := List.range r3) (gd := none) (rg1_ok e3 (by omega)) trivial (by rw [List.length_range]; omega) fun i _ =>
    ⟨[some (.obj 0), some (dR found), some (.str n), some (.int r1), some (.int ((r1 : Int) + r2)), some (.int (i : Int))], rfl, tup_eq (cons_eq (v_eq rfl) (cons_eq (v_eq rfl) (cons_eq (v_eq rfl) (cons1_eq ((op2_eq (op := dAdd) (v_eq rfl) c_eq).trans (add_int _ _ _)))))) (by simp)⟩
  have emap : (List.range r3).map (fun i => dS (f i)) = ((List.range r3).map f).map dS := by rw [List.map_map]; rfl
  rw [emap] at lc
  have ct : fCat (fV 1) (fTree (fLc (iRg1 (fCall S__law_take 2 [] (fCons (fV 0) (fCons (fC (.int 3)) fNil)))) (aNm 5) tYes (fTup (fCons (fV 3) (fCons (fV 4) (fCons (fV 2) (fCons (fOp2 dAdd (fV 5) (fC (.int 1))) fNil))))) [5])) [some (.obj 0), some (dR found), some (.str n), some (.int r1), some (.int ((r1 : Int) + r2)), x5] (Ms ns k2 v2) = .ok ((found ++ (List.range r3).map f).map dS) (Ms ns k3 v3) := by
    unfold fCat
    rw [v_eq (d := dR found) rfl, bind_ok, tree_eq lc, bind_ok]
    show (if (found.map dS).length + (((List.range r3).map f).map dS).length ≤ sizeLine then _ else _) = _
    rw [if_pos (sl1000 (by simp; omega)), List.map_append]
  refine ⟨k3, v3, found ++ (List.range r3).map f, some (.int r1), some (.int ((r1 : Int) + r2)), ?_, by omega, by simp; omega, ?_⟩
  · exact (seq_nx (set_eq e1)).trans ((seq_nx (set_eq s2)).trans (set_eq (tree_eq ct)))
  · intro s hs
    rcases List.mem_append.mp hs with hs | hs
    · exact hg s hs
    · obtain ⟨i, _, rfl⟩ := List.mem_map.mp hs
      exact ⟨⟨by show (0 : Int) ≤ r1; omega, by show (r1 : Int) ≤ 19; omega, by show (0 : Int) ≤ r1 + r2; omega, by show (r1 : Int) + r2 ≤ 19; omega, hn⟩, by show (r1 : Int) ≤ r1 + r2; omega⟩
theorem stays_ok (ns : List Int) : ∃ (xs : Row) (k' : Nat) (v' : Int), S__law_stays [.obj 0] (Ms ns 0 0) = .ok (dR (sortS xs)) (Ms ns k' v') ∧ xs.length ≤ 8 ∧ (∀ s ∈ xs, Good s) ∧ k' ≤ 12 := by
  have hnl : ∀ n ∈ [Str.ofString "ac", Str.ofString "aa", Str.ofString "ad", Str.ofString "ab"], n.length ≤ 2 := by decide +kernel
  obtain ⟨ρ', μ', h1, found, k, v, x2, x3, x4, x5, h2, h3, h4, h5, h6, _⟩ := forL_inv (gd := none) (a := aNm 2) (b := bS) D.str (fun rest ρ μ' => ∃ (found : Row) (k : Nat) (v : Int) (x2 x3 x4 x5 : Option D), ρ = [some (.obj 0), some (dR found), x2, x3, x4, x5] ∧ μ' = Ms ns k v ∧ k + 3 * rest.length ≤ 12 ∧ found.length + 2 * rest.length ≤ 8 ∧ (∀ s ∈ found, Good s) ∧ ∀ n ∈ rest, n.length ≤ 2)
    [Str.ofString "ac", Str.ofString "aa", Str.ofString "ad", Str.ofString "ab"] (ρ := [some (.obj 0), some (dR []), none, none, none, none]) (μ := Ms ns 0 0) ⟨[], 0, 0, none, none, none, none, rfl, rfl, by simp, by simp, by simp, hnl⟩ fun n rest ρ μ1 ⟨found, k, v, x2, x3, x4, x5, e1, e2, e3, e4, e5, e6⟩ => by
      subst e1; subst e2
      rw [List.length_cons] at e3 e4
      obtain ⟨k', v', found', x3', x4', g1, g2, g3, g4⟩ := bS_ok ns k v (by omega) found n (e6 n List.mem_cons_self) (by omega) e5 x3 x4 x5
      exact ⟨[some (.obj 0), some (dR found), some (.str n), x3, x4, x5], rfl, _, _, g1, trivial, found', k', v', _, _, _, _, rfl, rfl, by omega, by omega, g4, fun m hm => e6 m (List.mem_cons_of_mem _ hm)⟩
  subst h2; subst h3
  simp only [List.length_nil] at h4 h5
  refine ⟨found, k, v, ?_, by omega, h6, by omega⟩
  show cleanD (Ms ns 0 0) (b__law_stays (startD 6 [.obj 0]) (Ms ns 0 0)) = _
  have e1 : fTree (fItems fNil) (startD 6 [.obj 0]) (Ms ns 0 0) = .ok (dR []) (Ms ns 0 0) := tree_eq (items_eq nil_eq (by simp))
  have hi : iVal (fTree (fItems (fCons (fC (.str "ac")) (fCons (fC (.str "aa")) (fCons (fC (.str "ad")) (fCons (fC (.str "ab")) fNil)))))) [some (.obj 0), some (dR []), none, none, none, none] (Ms ns 0 0) = .ok ⟨[Str.ofString "ac", Str.ofString "aa", Str.ofString "ad", Str.ofString "ab"].map D.str, none⟩ (Ms ns 0 0) :=
    val_eq (tree_eq (items_eq (cons_eq c_eq (cons_eq c_eq (cons_eq c_eq (cons1_eq c_eq)))) (by simp))) (wk_l _ _)
  have e2 : fTree (fBl dSort (fCons (fV 1) fNil)) [some (.obj 0), some (dR found), x2, x3, x4, x5] (Ms ns k v) = .ok (dR (sortS found)) (Ms ns k v) := tree_eq ((bl_eq (cons1_eq (v_eq rfl))).trans (sort_ok found _))
  have body : b__law_stays (startD 6 [.obj 0]) (Ms ns 0 0) = .ret (dR (sortS found)) (Ms ns k v) := (seq_nx (set_eq e1)).trans ((seq_nx ((for_eq hi).trans h1)).trans (ret_eq e2))
  rw [body]
  exact clean_ret' _ rfl
end K25

namespace K25
open PySem PySem.Spec Z
/-! ### rows changed -/
theorem flat_set : ∀ (t : List Row) (k : Nat) (r' : Row), k < t.length → ((t.set k r').flatten ++ t.getD k []).Perm (t.flatten ++ r')
  | r :: t, 0, r', _ => by
    simp only [List.set_cons_zero, List.getD_cons_zero, List.flatten_cons]
    rw [List.append_assoc, List.append_assoc]
    have a : (r' ++ (t.flatten ++ r)).Perm ((t.flatten ++ r) ++ r') := List.perm_append_comm
    have b : ((t.flatten ++ r) ++ r').Perm ((r ++ t.flatten) ++ r') := List.perm_append_comm.append_right r'
    have c := a.trans b
    rw [List.append_assoc] at c
    exact c
  | r :: t, k + 1, r', h => by
    simp only [List.set_cons_succ, List.getD_cons_succ, List.flatten_cons]
    rw [List.append_assoc, List.append_assoc]
    exact (flat_set t k r' (by simpa using h)).append_left r
theorem getD_mem {t : List Row} {k : Nat} (h : k < t.length) : t.getD k [] ∈ t := by simp [h]
theorem mem_set {t : List Row} {k : Nat} {r r' : Row} (h : r ∈ t.set k r') : r ∈ t ∨ r = r' := List.mem_or_eq_of_mem_set h
theorem put_rows {t : List Row} (h : ∀ r ∈ t, OkRow r) {k : Nat} {s : Stay} (hs : s.a ≤ s.b) (hk : k ∈ freeM t s.a s.b) : ∀ r ∈ putM t k s, OkRow r := by
  obtain ⟨h1, h2⟩ := List.mem_filter.mp hk
  have hl := List.mem_range.mp h1
  intro r hr
  rcases mem_set hr with hr | rfl
  · exact h r hr
  · refine OkRow.perm ?_ (sortS_perm _)
    have ho := h _ (getD_mem hl)
    refine ⟨fun x hx => ?_, ?_⟩
    · rcases List.mem_append.mp hx with hx | hx
      · exact ho.le x hx
      · simp at hx; subst hx; exact hs
    · rw [List.pairwise_append]
      refine ⟨ho.ap, by simp, fun x hx y hy => ?_⟩
      simp at hy; subst hy
      have f : (t.getD k []).any (meets y.a y.b) = false := by
        unfold isFree at h2
        simpa using h2
      have := List.any_eq_false.mp f x hx
      unfold meets at this
      simp only [Bool.and_eq_true, decide_eq_true_eq, not_and] at this
      by_cases c : x.b < y.a
      · exact .inl c
      · refine .inr ?_
        by_cases c2 : x.a ≤ y.b
        · have := this c2; omega
        · omega
theorem put_flat {t : List Row} {k : Nat} {s : Stay} (hk : k < t.length) : (putM t k s).flatten.Perm (t.flatten ++ [s]) := by
  have a := flat_set t k (sortS (t.getD k [] ++ [s])) hk
  have b : (t.flatten ++ sortS (t.getD k [] ++ [s])).Perm ((t.flatten ++ [s]) ++ t.getD k []) := by
    rw [List.append_assoc]
    exact ((sortS_perm _).trans List.perm_append_comm).append_left _
  exact (List.perm_append_right_iff _).mp (a.trans b)
theorem filt_split (p : Stay → Bool) : ∀ r : Row, (r.filter p ++ r.filter fun s => !p s).Perm r
  | [] => .refl _
  | x :: r => by
    by_cases h : p x = true
    · simp only [List.filter_cons_of_pos h, List.filter_cons_of_neg (p := fun s => !p s) (a := x) (by simp [h]), List.cons_append]
      exact (filt_split p r).cons x
    · simp only [List.filter_cons_of_neg h, List.filter_cons_of_pos (p := fun s => !p s) (a := x) (by simp [h])]
      exact List.perm_middle.trans ((filt_split p r).cons x)
theorem el_perm (t : List Row) (night : Int) (k : Nat) : (early t night k ++ late t night k).Perm (t.getD k []) := by
  have e : late t night k = (t.getD k []).filter fun s => !decide (s.a < night) := by
    unfold late
    congr 1
    funext s
    rw [Bool.eq_iff_iff]
    simp
  rw [e]
  exact filt_split _ _
theorem ex_flat {t : List Row} {one other : Nat} {night : Int} (h1 : one < t.length) (h2 : other < t.length) : (exM t one other night).flatten.Perm t.flatten := by
  unfold exM
  split
  · exact .refl _
  · rename_i hne
    have a := flat_set t one (early t night one ++ late t night other) h1
    have b := flat_set (t.set one (early t night one ++ late t night other)) other (early t night other ++ late t night one) (by rw [List.length_set]; exact h2)
    have e : (t.set one (early t night one ++ late t night other)).getD other [] = t.getD other [] := by
      simp only [List.getD_eq_getElem?_getD]
      rw [List.getElem?_set_ne hne]
    rw [e] at b
    have ab : ((early t night one ++ late t night other) ++ (early t night other ++ late t night one)).Perm (t.getD one [] ++ t.getD other []) := by
      refine List.Perm.trans ?_ ((el_perm t night one).append (el_perm t night other))
      rw [List.append_assoc, List.append_assoc]
      refine List.Perm.append_left _ ?_
      have z : (late t night other ++ (early t night other ++ late t night one)).Perm ((early t night other ++ late t night one) ++ late t night other) := List.perm_append_comm
      refine z.trans ?_
      rw [List.append_assoc]
      refine List.perm_append_comm.trans ?_
      rw [List.append_assoc]
      refine List.Perm.append_left _ ?_
      exact List.perm_append_comm
    have c := (b.append_right (t.getD one [])).trans (((List.Perm.refl _).trans (by
      rw [List.append_assoc]
      exact List.Perm.append_left _ List.perm_append_comm)) : ((t.set one (early t night one ++ late t night other)).flatten ++ (early t night other ++ late t night one) ++ t.getD one []).Perm ((t.set one (early t night one ++ late t night other)).flatten ++ (t.getD one [] ++ (early t night other ++ late t night one))))
    have d : ((t.set one (early t night one ++ late t night other)).flatten ++ (t.getD one [] ++ (early t night other ++ late t night one))).Perm (t.flatten ++ (t.getD one [] ++ t.getD other [])) := by
      rw [← List.append_assoc]
      refine (a.append_right _).trans ?_
      rw [List.append_assoc]
      exact ab.append_left _
    have e2 := c.trans d
    rw [List.append_assoc] at e2
    have e3 : ((((t.set one (early t night one ++ late t night other)).set other (early t night other ++ late t night one)).flatten) ++ (t.getD one [] ++ t.getD other [])).Perm (t.flatten ++ (t.getD one [] ++ t.getD other [])) := (List.Perm.append_left _ List.perm_append_comm).trans e2
    exact (List.perm_append_right_iff _).mp e3
theorem el_ok {t : List Row} (h : ∀ r ∈ t, OkRow r) {night : Int} {x y : Nat} (hx : x < t.length) (hy : y < t.length) (nx : noOvr t night x = true) : OkRow (early t night x ++ late t night y) := by
  have h1 := h _ (getD_mem hx)
  have h2 := h _ (getD_mem hy)
  refine ⟨fun z hz => ?_, ?_⟩
  · rcases List.mem_append.mp hz with hz | hz
    · exact h1.le z (List.mem_filter.mp hz).1
    · exact h2.le z (List.mem_filter.mp hz).1
  · rw [List.pairwise_append]
    refine ⟨h1.ap.filter _, h2.ap.filter _, fun u hu v hv => ?_⟩
    obtain ⟨u1, u2⟩ := List.mem_filter.mp hu
    obtain ⟨v1, v2⟩ := List.mem_filter.mp hv
    have u3 := of_decide_eq_true u2
    have v3 := of_decide_eq_true v2
    have f : (t.getD x []).any (ovr night) = false := by
      unfold noOvr at nx
      simpa using nx
    have := List.any_eq_false.mp f u u1
    unfold ovr at this
    simp only [Bool.and_eq_true, decide_eq_true_eq, not_and] at this
    have := this u3
    exact .inl (by omega)
theorem ex_rows {t : List Row} (h : ∀ r ∈ t, OkRow r) {one other : Nat} {night : Int} (he : exOk t one other night = true) : ∀ r ∈ exM t one other night, OkRow r := by
  unfold exOk at he
  simp only [Bool.and_eq_true, decide_eq_true_eq] at he
  obtain ⟨⟨h1, n1⟩, h2, n2⟩ := he
  intro r hr
  unfold exM at hr
  split at hr
  · exact h r hr
  · rcases mem_set hr with hr | rfl
    · rcases mem_set hr with hr | rfl
      · exact h r hr
      · exact el_ok h h1 h2 n1
    · exact el_ok h h2 h1 n2
/-- due, as the judge lays it out -/
theorem due_map (t : List Row) (k : Nat) (s : Stay) : ((List.range t.length).map fun j => if j = k then dR (sortS (t.getD j [] ++ [s])) else dR (t.getD j [])) = (putM t k s).map dR := by
  apply List.ext_getElem?
  intro i
  unfold putM
  rw [List.getElem?_map, List.getElem?_map]
  by_cases c : i < t.length
  · rw [List.getElem?_range c]
    by_cases e : k = i
    · subst e
      rw [List.getElem?_set_self c]; simp
    · rw [List.getElem?_set_ne e, List.getElem?_eq_getElem c]
      show some (if i = k then _ else _) = _
      rw [if_neg (fun z => e z.symm)]
      simp [c]
  · rw [List.getElem?_eq_none (by simp; omega), List.getElem?_eq_none (by rw [List.length_set]; omega)]; rfl
end K25

namespace K25
open PySem PySem.Spec Z
/-! ### the slots of the law -/
structure Has (ρ : Z.Env) (l : List (Nat × D)) : Prop where
  n : ρ.length = 21
  a : ∀ p ∈ l, ρ[p.1]? = some (some p.2)
theorem Has.at {ρ : Z.Env} {l : List (Nat × D)} (h : Has ρ l) {i : Nat} {d : D} (m : (i, d) ∈ l) : ρ[i]? = some (some d) := h.a (i, d) m
theorem Has.v {ρ : Z.Env} {l : List (Nat × D)} (h : Has ρ l) {i : Nat} {d : D} (m : (i, d) ∈ l) (μ : Mem) : fV i ρ μ = .ok d μ := v_eq (h.at m)
theorem Has.put {ρ : Z.Env} {l : List (Nat × D)} (h : Has ρ l) {i : Nat} (d : D) (hi : i < 21) (hn : ∀ p ∈ l, i ≠ p.1) : Has (ρ.set i (some d)) ((i, d) :: l) := by
  refine ⟨by rw [List.length_set]; exact h.n, fun p hp => ?_⟩
  rcases List.mem_cons.mp hp with rfl | hp
  · exact get_set' (by rw [h.n]; exact hi)
  · rw [get_set (hn p hp)]; exact h.a p hp
theorem Has.sub {ρ : Z.Env} {l l' : List (Nat × D)} (h : Has ρ l) (s : ∀ p ∈ l', p ∈ l) : Has ρ l' := ⟨h.n, fun p hp => h.a p (s p hp)⟩
theorem ms_below (ns : List Int) (k : Nat) (v : Int) : (Ms ns k v).all (Cell.below (Ms ns k v).length) = true := by
  show (Cell.below 1 (.lst [.sq (ns.map D.int), .int k, .int v]) && true) = true
  rw [Bool.and_true]
  show D.los 1 [.sq (ns.map D.int), .int k, .int v] = true
  have e : D.los 1 (ns.map D.int) = true := by
    rw [D.los_all, List.all_eq_true]
    intro d hd
    obtain ⟨x, _, rfl⟩ := List.mem_map.mp hd
    rfl
  simp [D.los, D.lo, e]
/-- what is known of stays and rooms -/
structure Fac (st : Row) (t : List Row) : Prop where
  st8 : st.length ≤ 8
  p : t.flatten.Perm st
  ok : ∀ r ∈ t, OkRow r
  so : ∀ r ∈ t, ∀ s ∈ r, StOk s
  t8 : t.length ≤ 8
theorem Fac.f8 {st : Row} {t : List Row} (f : Fac st t) : t.flatten.length ≤ 8 := by rw [f.p.length_eq]; exact f.st8
theorem Fac.r8 {st : Row} {t : List Row} (f : Fac st t) : ∀ r ∈ t, r.length ≤ 8 := fun r hr => Nat.le_trans (flat_len hr) f.f8
theorem Fac.sm {st : Row} {t : List Row} (f : Fac st t) : Sm t := ⟨by have := f.t8; omega, fun r hr => by have := f.r8 r hr; omega⟩
theorem fac_of {xs : Row} (h8 : xs.length ≤ 8) (hg : ∀ s ∈ xs, Good s) : Fac (sortS xs) (roomsM (sortS (sortS xs))) := by
  have p1 := sortS_perm xs
  have p2 := sortS_perm (sortS xs)
  have p3 := rooms_perm (sortS (sortS xs))
  refine ⟨by rw [p1.length_eq]; exact h8, p3.trans p2, rooms_fwd fun x hx => (hg x (p1.mem_iff.mp (p2.mem_iff.mp hx))).le, fun r hr s hs => ?_, ?_⟩
  · have : s ∈ (roomsM (sortS (sortS xs))).flatten := List.mem_flatten.mpr ⟨r, hr, hs⟩
    exact (hg s (p1.mem_iff.mp (p2.mem_iff.mp (p3.mem_iff.mp this)))).toStOk
  · have := rooms_len (sortS (sortS xs))
    rw [p2.length_eq, p1.length_eq] at this
    omega
noncomputable def bL1 : SemS := (sIf (Z.tOr (Z.tCmp dNe (fCall S__law_told 5 [] (fCons (fC (.int 0)) (fCons (fTree (fLc (iVal (fV 3)) (aNm 6) tYes (fTree (fBl dList (fCons (fV 6) fNil))) [6])) (fCons (fV 15) (fCons (fC (.int 0)) (fCons (fV 14) fNil)))))) (fV 17)) (Z.tAnd (Z.tCmp dIsNot (fV 17) (fC .non)) (Z.tNot (fTru (fCall S_is_housed 2 [] (fCons (fTree (fCat (fV 2) (fTree (fItems (fCons (fV 14) fNil))))) (fCons (fV 17) fNil))))))) (sRet (fC (.bl false))) sNext)
noncomputable def bL2 : SemS := (sIf (Z.tOr (Z.tCmp dNe (fCall S__law_told 5 [] (fCons (fC (.int 1)) (fCons (fTree (fLc (iVal (fV 3)) (aNm 6) tYes (fTree (fBl dList (fCons (fV 6) fNil))) [6])) (fCons (fV 15) (fCons (fV 16) (fCons (fV 19) fNil)))))) (fV 20)) (Z.tAnd (Z.tCmp dIsNot (fV 20) (fC .non)) (Z.tNot (fTru (fCall S_is_housed 2 [] (fCons (fTree (fBl dList (fCons (fV 2) fNil))) (fCons (fV 20) fNil))))))) (sRet (fC (.bl false))) sNext)
noncomputable def bL0 : SemS := (sIf (Z.tCmp dIn (fV 15) (fCall S__law_free 3 [] (fCons (fV 3) (fCons (fV 12) (fCons (fV 13) fNil))))) (sSet 17 (fTree (fLc (iRg1 (fBi dLen (fCons (fV 3) fNil))) (aNm 18) tYes (fIf (Z.tCmp dEq (fV 18) (fV 15)) (fTree (fBl dSort (fCons (fTree (fCat (fIx (fV 3) (fV 18)) (fTree (fItems (fCons (fV 14) fNil))))) fNil))) (fIx (fV 3) (fV 18))) [18]))) sNext)
noncomputable def bL : SemS := (sSeq (sSet 12 (fCall S__law_take 2 [] (fCons (fV 1) (fCons (fC (.int 14)) fNil)))) (sSeq (sSet 13 (fOp2 dAdd (fV 12) (fCall S__law_take 2 [] (fCons (fV 1) (fCons (fC (.int 4)) fNil))))) (sSeq (sSet 14 (fTup (fCons (fV 12) (fCons (fV 13) (fCons (fC (.str "zz")) (fCons (fOp2 dAdd (fV 8) (fC (.int 1))) fNil)))))) (sSeq (sSet 15 (fCall S__law_take 2 [] (fCons (fV 1) (fCons (fOp2 dAdd (fBi dLen (fCons (fV 3) fNil)) (fC (.int 1))) fNil)))) (sSeq (sSet 16 (fCall S__law_take 2 [] (fCons (fV 1) (fCons (fOp2 dAdd (fBi dLen (fCons (fV 3) fNil)) (fC (.int 1))) fNil)))) (sSeq (sIf (Z.tCmp dNe (fCall S_free_rooms 3 [] (fCons (fV 3) (fCons (fV 12) (fCons (fV 13) fNil)))) (fCall S__law_free 3 [] (fCons (fV 3) (fCons (fV 12) (fCons (fV 13) fNil))))) (sRet (fC (.bl false))) sNext) (sSeq (sSet 17 (fC .non)) (sSeq bL0 (sSeq bL1 (sSeq (sSet 19 (fCall S__law_take 2 [] (fCons (fV 1) (fCons (fC (.int 15)) fNil)))) (sSeq (sSet 20 (fCall S__law_exchanged 4 [] (fCons (fV 3) (fCons (fV 15) (fCons (fV 16) (fCons (fV 19) fNil)))))) bL2)))))))))))
theorem ints_fit (ks : List Nat) : D.fit 9 (.lst (ks.map fun k => D.int (k : Nat))) = true := fit_le (n := 1) (fit_lst (fits_map _ _ fun s _ => by simp [D.fit])) (by decide)
theorem copyT {t : List Row} (h : Sm t) {ρ : Z.Env} (μ : Mem) (hp : ρ[3]? = some (some (dT t))) (hl : ρ.length = 21) : fTree (fLc (iVal (fV 3)) (aNm 6) tYes (fTree (fBl dList (fCons (fV 6) fNil))) [6]) ρ μ = .ok (dT t) μ :=
  tree_eq (copy_lc h ρ μ 3 6 hp (by omega))
theorem and_f {t u : SemT} {ρ : Z.Env} {μ μ' : Mem} (h : t ρ μ = .ok false μ') : Z.tAnd t u ρ μ = .ok false μ' := by
  unfold Z.tAnd
  rw [h]; rfl
theorem due_fit (t : List Row) (b : Bool) : (if b = true then dT t else .non).isT = true ∧ D.fit 9 (if b = true then dT t else .non) = true := by
  cases b with
  | true => exact ⟨rfl, fit_le (fit_T t) (by decide)⟩
  | false => exact ⟨rfl, rfl⟩
theorem bL01_ok {st : Row} {t : List Row} (f : Fac st t) (fr : Stay) (hfr : fr.a ≤ fr.b) (r3 r4 : Nat) (μ : Mem) (hb : μ.all (Cell.below μ.length) = true) {ρ : Z.Env} (h : Has ρ [(17, .non), (16, .int r4), (15, .int r3), (14, dS fr), (13, .int fr.b), (12, .int fr.a), (1, .obj 0), (2, dR st), (3, dT t)]) (rest : SemS) :
    ∃ ρ' : Z.Env, sSeq bL0 (sSeq bL1 rest) ρ μ = rest ρ' μ ∧ Has ρ' [(16, .int r4), (15, .int r3), (1, .obj 0), (2, dR st), (3, dT t)] := by
  have sm := f.sm
  have t8 := f.t8
  have q2 := (call_eq (S := S__law_free) (n := 3) (fa := fCons (fV 3) (fCons (fV 12) (fCons (fV 13) fNil))) (cons_eq (h.v (i := 3) (by simp) μ) (cons_eq (h.v (i := 12) (by simp) μ) (cons1_eq (h.v (i := 13) (by simp) μ)))) rfl).trans (freeL_ok sm fr.a fr.b μ)
  have ti := tc_eq (c := dIn) (h.v (i := 15) (d := .int r3) (by simp) μ) q2 (in_ints r3 _ μ)
  have told : ∀ {ρ : Z.Env} {l : List (Nat × D)}, Has ρ l → (3, dT t) ∈ l → (15, .int r3) ∈ l → (14, dS fr) ∈ l → fCall S__law_told 5 [] (fCons (fC (.int 0)) (fCons (fTree (fLc (iVal (fV 3)) (aNm 6) tYes (fTree (fBl dList (fCons (fV 6) fNil))) [6])) (fCons (fV 15) (fCons (fC (.int 0)) (fCons (fV 14) fNil))))) ρ μ = .ok (if r3 ∈ freeM t fr.a fr.b then dT (putM t r3 fr) else .non) μ := fun h m3 m15 m14 =>
    (call_eq (cons_eq (c_eq (d := .int 0)) (cons_eq (copyT sm μ (h.at m3) h.n) (cons_eq (h.v m15 μ) (cons_eq (c_eq (d := .int 0)) (cons1_eq (h.v m14 μ)))))) rfl).trans (told_put sm r3 _ fr μ hb)
  by_cases hf : r3 ∈ freeM t fr.a fr.b
  · rw [decide_eq_true hf] at ti
    rw [if_pos hf] at told
    have hk : r3 < t.length := List.mem_range.mp (List.mem_filter.mp hf).1
    have lc : fLc (iRg1 (fBi dLen (fCons (fV 3) fNil))) (aNm 18) tYes (fIf (Z.tCmp dEq (fV 18) (fV 15)) (fTree (fBl dSort (fCons (fTree (fCat (fIx (fV 3) (fV 18)) (fTree (fItems (fCons (fV 14) fNil))))) fNil))) (fIx (fV 3) (fV 18))) [18] ρ μ = .ok ((List.range t.length).map fun j => if j = r3 then dR (sortS (t.getD j [] ++ [fr])) else dR (t.getD j [])) μ := by
      refine fLc_yes (fun j : Nat => D.int (j : Int)) _ (gd := none) (rg1_ok ((bi_eq (cons1_eq (h.v (i := 3) (by simp) μ))).trans (lenT t μ)) (by omega)) trivial (by rw [List.length_range]; exact sl1000 (by omega)) fun j hj => ?_
      have hj := List.mem_range.mp hj
      have hl : 18 < ρ.length := by rw [h.n]; decide
      have w3 : (ρ.set 18 (some (.int (j : Int))))[3]? = some (some (dT t)) := by rw [get_set (by decide)]; exact h.at (by simp)
      have w15 : (ρ.set 18 (some (.int (j : Int))))[15]? = some (some (.int r3)) := by rw [get_set (by decide)]; exact h.at (by simp)
      have w14 : (ρ.set 18 (some (.int (j : Int))))[14]? = some (some (dS fr)) := by rw [get_set (by decide)]; exact h.at (by simp)
      have w18 : (ρ.set 18 (some (.int (j : Int))))[18]? = some (some (.int (j : Int))) := get_set' hl
      refine ⟨ρ.set 18 (some (.int (j : Int))), by rw [aNm, wipe1], ?_⟩
      have tt := tc_eq (c := dEq) (v_eq (μ := μ) w18) (v_eq w15) (dEq_int _ _ μ)
      have ix := (ix_eq (v_eq w3) (v_eq w18)).trans (ixD hj μ)
      by_cases c : j = r3
      · have c' : (j : Int) = (r3 : Int) := by omega
        rw [decide_eq_true c'] at tt
        rw [if_pos c]
        have hr : (t.getD j []).length ≤ 1000 := sm.r _ (getD_mem hj)
        have c1 := cat_ok (b := fTree (fItems (fCons (fV 14) fNil))) ix (tree_eq (items_eq (cons1_eq (v_eq w14)) (by simp))) (by rw [List.length_map, List.length_singleton]; omega)
        have e1 : (t.getD j []).map dS ++ [dS fr] = (t.getD j [] ++ [fr]).map dS := by simp
        rw [e1] at c1
        exact (fif_t tt).trans (tree_eq ((bl_eq (op := dSort) (cons1_eq (tree_eq c1))).trans (sort_ok (t.getD j [] ++ [fr]) μ)))
      · have c' : ¬ (j : Int) = (r3 : Int) := by omega
        rw [decide_eq_false c'] at tt
        rw [if_neg c]
        exact (fif_f tt).trans ix
    rw [due_map] at lc
    have s0 : bL0 ρ μ = .next (ρ.set 17 (some (dT (putM t r3 fr)))) μ := (if_t ti).trans (set_eq (tree_eq lc))
    have h' : Has (ρ.set 17 (some (dT (putM t r3 fr)))) [(17, dT (putM t r3 fr)), (16, .int r4), (15, .int r3), (14, dS fr), (1, .obj 0), (2, dR st), (3, dT t)] := (h.sub (l' := [(16, .int r4), (15, .int r3), (14, dS fr), (1, .obj 0), (2, dR st), (3, dT t)]) (by simp)).put _ (by decide) (by simp)
    have v17 := h'.v (i := 17) (d := dT (putM t r3 fr)) (by simp) μ
    have t1 := tne_refl (told h' (by simp) (by simp) (by simp)) v17 rfl (fit_le (fit_T _) (by decide))
    have t2 := tc_eq (c := dIsNot) v17 (c_eq (d := .non)) (isn_lst μ _)
    have ca := cat_ok (h'.v (i := 2) (d := dR st) (by simp) μ) (tree_eq (items_eq (cons1_eq (h'.v (i := 14) (d := dS fr) (by simp) μ)) (by simp))) (by rw [List.length_map, List.length_singleton]; have := f.st8; omega)
    have e2 : st.map dS ++ [dS fr] = (st ++ [fr]).map dS := by simp
    rw [e2] at ca
    have hou := (call_eq (S := S_is_housed) (n := 2) (cons_eq (tree_eq ca) (cons1_eq v17)) rfl).trans (housed_ok (st ++ [fr]) (putM t r3 fr) (put_rows f.ok hfr hf) ((put_flat hk).trans (f.p.append_right _)) (by rw [List.length_append, List.length_singleton]; have := f.st8; omega) μ)
    have t3 := not_eq (tru_eq hou (tru_bl μ true))
    have s1 : bL1 (ρ.set 17 (some (dT (putM t r3 fr)))) μ = .next (ρ.set 17 (some (dT (putM t r3 fr)))) μ := if_nx (or_eq t1 (and_eq t2 t3))
    exact ⟨_, (seq_nx s0).trans (seq_nx s1), h'.sub (by simp)⟩
  · rw [decide_eq_false hf] at ti
    rw [if_neg hf] at told
    have s0 : bL0 ρ μ = .next ρ μ := if_nx ti
    have v17 := h.v (i := 17) (d := .non) (by simp) μ
    have t1 := tne_refl (told h (by simp) (by simp) (by simp)) v17 rfl rfl
    have t2 := tc_eq (c := dIsNot) v17 (c_eq (d := .non)) (isn_non μ)
    have s1 : bL1 ρ μ = .next ρ μ := if_nx (or_eq t1 (and_f t2))
    exact ⟨_, (seq_nx s0).trans (seq_nx s1), h.sub (by simp)⟩
theorem bL2_ok {st : Row} {t : List Row} (f : Fac st t) (r3 r4 r5 : Nat) (μ : Mem) (hb : μ.all (Cell.below μ.length) = true) {ρ : Z.Env} (h : Has ρ [(19, .int r5), (16, .int r4), (15, .int r3), (1, .obj 0), (2, dR st), (3, dT t)]) :
    ∃ ρ' : Z.Env, sSeq (sSet 20 (fCall S__law_exchanged 4 [] (fCons (fV 3) (fCons (fV 15) (fCons (fV 16) (fCons (fV 19) fNil)))))) bL2 ρ μ = .next ρ' μ ∧ Has ρ' [(1, .obj 0), (2, dR st), (3, dT t)] := by
  have sm := f.sm
  have q := (call_eq (S := S__law_exchanged) (n := 4) (fa := fCons (fV 3) (fCons (fV 15) (fCons (fV 16) (fCons (fV 19) fNil)))) (cons_eq (h.v (i := 3) (by simp) μ) (cons_eq (h.v (i := 15) (by simp) μ) (cons_eq (h.v (i := 16) (by simp) μ) (cons1_eq (h.v (i := 19) (by simp) μ))))) rfl).trans (exL_ok sm (fun r hr => by have := f.r8 r hr; omega) r3 r4 r5 μ hb)
  have h' := h.put (i := 20) (if exOk t r3 r4 r5 = true then dT (exM t r3 r4 r5) else .non) (by decide) (by simp)
  have v20 := h'.v (i := 20) (d := if exOk t r3 r4 r5 = true then dT (exM t r3 r4 r5) else .non) (by simp) μ
  have told := (call_eq (S := S__law_told) (n := 5) (fa := fCons (fC (.int 1)) (fCons (fTree (fLc (iVal (fV 3)) (aNm 6) tYes (fTree (fBl dList (fCons (fV 6) fNil))) [6])) (fCons (fV 15) (fCons (fV 16) (fCons (fV 19) fNil))))) (cons_eq (c_eq (d := .int 1)) (cons_eq (copyT sm μ (h'.at (by simp)) h'.n) (cons_eq (h'.v (i := 15) (by simp) μ) (cons_eq (h'.v (i := 16) (by simp) μ) (cons1_eq (h'.v (i := 19) (by simp) μ)))))) rfl).trans (told_ex sm r3 r4 r5 μ hb)
  have df := due_fit (exM t r3 r4 r5) (exOk t r3 r4 r5)
  have t1 := tne_refl told v20 df.1 df.2
  refine ⟨_, (seq_nx (set_eq q)).trans ?_, h'.sub (by simp)⟩
  cases he : exOk t r3 r4 r5 with
  | true =>
    rw [he] at v20 t1 h'
    have v20' : fV 20 (ρ.set 20 (some (if true = true then dT (exM t r3 r4 r5) else .non))) μ = .ok (dT (exM t r3 r4 r5)) μ := v20
    have hou := (call_eq (S := S_is_housed) (n := 2) (fa := fCons (fTree (fBl dList (fCons (fV 2) fNil))) (fCons (fV 20) fNil)) (cons_eq (tree_eq ((bl_eq (cons1_eq (h'.v (i := 2) (d := dR st) (by simp) μ))).trans (list_l μ _))) (cons1_eq v20')) rfl).trans (housed_ok st (exM t r3 r4 r5) (ex_rows f.ok he) ((ex_flat (by
      unfold exOk at he; simp only [Bool.and_eq_true, decide_eq_true_eq] at he; exact he.1.1) (by
      unfold exOk at he; simp only [Bool.and_eq_true, decide_eq_true_eq] at he; exact he.2.1)).trans f.p) (by have := f.st8; omega) μ)
    exact if_nx (or_eq t1 (and_eq (tc_eq (c := dIsNot) v20' (c_eq (d := .non)) (isn_lst μ _)) (not_eq (tru_eq hou (tru_bl μ true)))))
  | false =>
    rw [he] at v20 t1 h'
    have v20' : fV 20 (ρ.set 20 (some (if false = true then dT (exM t r3 r4 r5) else .non))) μ = .ok .non μ := v20
    exact if_nx (or_eq t1 (and_f (tc_eq (c := dIsNot) v20' (c_eq (d := .non)) (isn_non μ))))
theorem bL_ok (ns : List Int) {st : Row} {t : List Row} (f : Fac st t) (i : Nat) (k : Nat) (v : Int) (hk : k < 900) {ρ : Z.Env} (h : Has ρ [(8, .int (i : Int)), (1, .obj 0), (2, dR st), (3, dT t)]) :
    ∃ (ρ' : Z.Env) (k' : Nat) (v' : Int), bL ρ (Ms ns k v) = .next ρ' (Ms ns k' v') ∧ k' ≤ k + 5 ∧ Has ρ' [(1, .obj 0), (2, dR st), (3, dT t)] := by
  have sm := f.sm
  have t8 := f.t8
  have hn1 : ((t.length : Int) + 1) = ((t.length + 1 : Nat) : Int) := by omega
  obtain ⟨r1, k1, v1, a1, b1, c1⟩ := take_call ns k v 14 (by decide) (by decide) (by omega)
  obtain ⟨r2, k2, v2, a2, b2, c2⟩ := take_call ns k1 v1 4 (by decide) (by decide) (by omega)
  obtain ⟨r3, k3, v3, a3, b3, c3⟩ := take_call ns k2 v2 (t.length + 1) (by omega) (by omega) (by omega)
  obtain ⟨r4, k4, v4, a4, b4, c4⟩ := take_call ns k3 v3 (t.length + 1) (by omega) (by omega) (by omega)
  obtain ⟨r5, k5, v5, a5, b5, c5⟩ := take_call ns k4 v4 15 (by decide) (by decide) (by omega)
  have s12 := set_eq (i := 12) (c1 ρ 1 (fC (.int 14)) (h.at (by simp)) rfl)
  have h12 := h.put (i := 12) (.int r1) (by decide) (by simp)
  have s13 := set_eq (i := 13) ((op2_eq (op := dAdd) (h12.v (i := 12) (d := .int r1) (by simp) _) (c2 (ρ.set 12 (some (.int r1))) 1 (fC (.int 4)) (h12.at (by simp)) rfl)).trans (add_int _ _ _))
  have h13 := h12.put (i := 13) (.int ((r1 : Int) + r2)) (by decide) (by simp)
  let fr : Stay := ⟨r1, (r1 : Int) + r2, Str.ofString "zz", (i : Int) + 1⟩
  have s14 := set_eq (i := 14) (tup_eq (cons_eq (h13.v (i := 12) (d := .int r1) (by simp) (Ms ns k2 v2)) (cons_eq (h13.v (i := 13) (d := .int ((r1 : Int) + r2)) (by simp) _) (cons_eq (c_eq (d := .str "zz")) (cons1_eq ((op2_eq (op := dAdd) (h13.v (i := 8) (d := .int (i : Int)) (by simp) _) (c_eq (d := .int 1))).trans (add_int _ _ _)))))) (by simp))
  have h14 := h13.put (i := 14) (dS fr) (by decide) (by simp)
  have ln := fun {ρ : Z.Env} (h : ρ[3]? = some (some (dT t))) (μ : Mem) => ((op2_eq (op := dAdd) ((bi_eq (cons1_eq (v_eq h))).trans (lenT t μ)) (c_eq (d := .int 1))).trans (add_int μ _ _))
  rw [hn1] at ln
  have s15 := set_eq (i := 15) (c3 _ 1 (fOp2 dAdd (fBi dLen (fCons (fV 3) fNil)) (fC (.int 1))) (h14.at (by simp)) (ln (h14.at (by simp)) _))
  have h15 := h14.put (i := 15) (.int r3) (by decide) (by simp)
  have s16 := set_eq (i := 16) (c4 _ 1 (fOp2 dAdd (fBi dLen (fCons (fV 3) fNil)) (fC (.int 1))) (h15.at (by simp)) (ln (h15.at (by simp)) _))
  have h16 := h15.put (i := 16) (.int r4) (by decide) (by simp)
  have hb := ms_below ns k4 v4
  have args : ∀ {ρ : Z.Env}, ρ[3]? = some (some (dT t)) → ρ[12]? = some (some (.int r1)) → ρ[13]? = some (some (.int ((r1 : Int) + r2))) → ∀ μ : Mem, fCons (fV 3) (fCons (fV 12) (fCons (fV 13) fNil)) ρ μ = .ok [dT t, .int r1, .int ((r1 : Int) + r2)] μ := fun g1 g2 g3 μ => cons_eq (v_eq g1) (cons_eq (v_eq g2) (cons1_eq (v_eq g3)))
  have q1 := (call_eq (S := S_free_rooms) (n := 3) (args (h16.at (by simp)) (h16.at (by simp)) (h16.at (by simp)) (Ms ns k4 v4)) rfl).trans (free_ok sm r1 ((r1 : Int) + r2) (Ms ns k4 v4) hb)
  have q2 := (call_eq (S := S__law_free) (n := 3) (args (h16.at (by simp)) (h16.at (by simp)) (h16.at (by simp)) (Ms ns k4 v4)) rfl).trans (freeL_ok sm r1 ((r1 : Int) + r2) (Ms ns k4 v4))
  have i1 := if_nx (a := sRet (fC (.bl false))) (tne_refl q1 q2 rfl (ints_fit _))
  have s17 := set_eq (i := 17) (c_eq (d := .non) (ρ := (((((ρ.set 12 (some (.int r1))).set 13 (some (.int ((r1 : Int) + r2)))).set 14 (some (dS fr))).set 15 (some (.int r3))).set 16 (some (.int r4)))) (μ := Ms ns k4 v4))
  have h17 := h16.put (i := 17) .non (by decide) (by simp)
  obtain ⟨ρ18, s18, h18⟩ := bL01_ok f fr (by show (r1 : Int) ≤ r1 + r2; omega) r3 r4 (Ms ns k4 v4) hb (h17.sub (l' := [(17, .non), (16, .int r4), (15, .int r3), (14, dS fr), (13, .int fr.b), (12, .int fr.a), (1, .obj 0), (2, dR st), (3, dT t)]) (by simp [fr])) (sSeq (sSet 19 (fCall S__law_take 2 [] (fCons (fV 1) (fCons (fC (.int 15)) fNil)))) (sSeq (sSet 20 (fCall S__law_exchanged 4 [] (fCons (fV 3) (fCons (fV 15) (fCons (fV 16) (fCons (fV 19) fNil)))))) bL2))
  have s19 := set_eq (i := 19) (c5 ρ18 1 (fC (.int 15)) (h18.at (by simp)) rfl)
  have h19 := h18.put (i := 19) (.int r5) (by decide) (by simp)
  obtain ⟨ρ20, s20, h20⟩ := bL2_ok f r3 r4 r5 (Ms ns k5 v5) (ms_below ns k5 v5) h19
  refine ⟨ρ20, k5, v5, ?_, by omega, h20⟩
  exact (seq_nx s12).trans ((seq_nx s13).trans ((seq_nx s14).trans ((seq_nx s15).trans ((seq_nx s16).trans ((seq_nx i1).trans ((seq_nx s17).trans (s18.trans ((seq_nx s19).trans s20))))))))
end K25

namespace K25
open PySem PySem.Spec Z
theorem lst_nil_e {ρ : Z.Env} {μ : Mem} : fTree (fItems fNil) ρ μ = .ok (.lst []) μ := tree_eq (items_eq nil_eq (by simp))
theorem isE_map {α : Type} (f : α → D) (xs : List α) : (xs.map f).isEmpty = xs.isEmpty := by cases xs <;> rfl
theorem most_val {t : List Row} (sm : Sm t) (μ : Mem) : ∃ d : D, d.isT = true ∧ D.fit 9 d = true ∧ S_most_room [dT t] μ = .ok d μ ∧ ∀ ρ : Z.Env, ρ[4]? = some (some (.lst ((t.map spanR).map D.int))) →
    fIf (Z.tCmp dNe (fV 4) (fTree (fItems fNil))) (fTup (fCons (fMtT "list" dIndex (fV 4) (fCons (fBi dMax1 (fCons (fV 4) fNil)) fNil)) (fCons (fBi dMax1 (fCons (fV 4) fNil)) fNil))) (fC .non) ρ μ = .ok d μ := by
  have nk : fCall S_nights_taken 1 [] (fCons (fV 0) fNil) (startD 2 [dT t]) μ = .ok (.lst ((t.map spanR).map D.int)) μ := by
    refine (call_eq (cons1_eq (v_eq rfl)) rfl).trans ?_
    rw [nights_ok t sm.l sm.r, map_map_int]
  have fits : D.fits 8 ((t.map spanR).map D.int) = true := fits_map _ _ fun s _ => by simp [D.fit]
  have tt : ∀ ρ : Z.Env, ρ[4]? = some (some (.lst ((t.map spanR).map D.int))) → Z.tCmp dNe (fV 4) (fTree (fItems fNil)) ρ μ = .ok (!(t.map spanR).isEmpty) μ := fun ρ h =>
    tc_eq (v_eq h) lst_nil_e (by unfold dNe; rw [dEq_nil fits, isE_map]; rfl)
  have tb : fTru (fV 1) [some (dT t), some (.lst ((t.map spanR).map D.int))] μ = .ok (!(t.map spanR).isEmpty) μ := tru_eq (v_eq rfl) (by rw [tru_lst, isE_map])
  show ∃ d : D, d.isT = true ∧ D.fit 9 d = true ∧ cleanD μ (b_most_room (startD 2 [dT t]) μ) = .ok d μ ∧ _
  by_cases hn : t.map spanR = []
  · refine ⟨.non, rfl, rfl, ?_, fun ρ h => ?_⟩
    · rw [hn] at tb
      have body : b_most_room (startD 2 [dT t]) μ = .ret .non μ := by
        have s1 := set_eq (i := 1) nk
        rw [hn] at s1
        exact (seq_nx s1).trans (ret_eq ((fif_f tb).trans c_eq))
      rw [body, clean_ret]
    · have := tt ρ h
      rw [hn] at this
      exact (fif_f this).trans c_eq
  · obtain ⟨d, d1, d2, d3⟩ := most_ok (t.map spanR) hn μ
    have he : (t.map spanR).isEmpty = false := by cases h : t.map spanR with
      | nil => exact absurd h hn
      | cons a b => rfl
    refine ⟨d, d1, d2, ?_, fun ρ h => ?_⟩
    · rw [he] at tb
      have body : b_most_room (startD 2 [dT t]) μ = .ret d μ := (seq_nx (set_eq nk)).trans (ret_eq ((fif_t tb).trans (d3 _ 1 rfl)))
      rw [body, clean_ret]
    · have := tt ρ h
      rw [he] at this
      exact (fif_t this).trans (d3 ρ 4 h)
theorem lines_ok {t : List Row} (sm : Sm t) (hs : ∀ r ∈ t, ∀ s ∈ r, StOk s) (μ : Mem) : S_room_lines [dT t] μ = .ok (.lst (t.map fun r => .str (rowS r))) μ := by
  show cleanD μ (b_room_lines (startD 3 [dT t]) μ) = _
  have body : b_room_lines (startD 3 [dT t]) μ = .ret (.lst (t.map fun r => .str (rowS r))) μ := ret_eq (tree_eq (lines_lc sm hs (startD 3 [dT t]) μ 0 2 1 rfl (by simp [startD]) (by simp [startD])))
  rw [body, clean_ret]
theorem together_ok {t : List Row} (sm : Sm t) (n : Str) (μ : Mem) : S_together [dT t, .str n] μ = .ok (.lst ((togM t n).map fun k => .int (k : Nat))) μ := by
  show cleanD μ (b_together (startD 4 [dT t, .str n]) μ) = _
  have body : b_together (startD 4 [dT t, .str n]) μ = .ret (.lst ((togM t n).map fun k => .int (k : Nat))) μ := ret_eq (tree_eq (together_lc sm n (startD 4 [dT t, .str n]) μ 0 1 2 3 rfl rfl (by simp [startD]) (by simp [startD]) (by decide) (by decide) (by decide) (by decide) (by decide)))
  rw [body, clean_ret]
theorem come_fit (t : List Row) (q : Stay → Bool) (ks : List Nat) : D.fit 3 (.lst (comeM t q ks)) = true := by
  refine fit_lst ?_
  rw [D.fits_all, List.all_eq_true]
  intro d hd
  obtain ⟨l, hl, hd⟩ := List.mem_flatten.mp hd
  obtain ⟨k, _, rfl⟩ := List.mem_map.mp hl
  obtain ⟨s, _, rfl⟩ := List.mem_map.mp hd
  simp [D.fit, D.fits, dS]
theorem law_ok : ∀ ns : List Int, ns.length ≤ 63 → (∀ z ∈ ns, Builtin.Int.intBits z ≤ 1048576) → ∃ μ, S_law [.sq (ns.map D.int)] [] = .ok (.bl true) μ := by
  intro ns _ _
  refine ⟨[], ?_⟩
  obtain ⟨xs, k0, v0, stE, x8, xg, hk0⟩ := stays_ok ns
  have f := fac_of x8 xg
  revert f stE
  generalize hst : sortS xs = st
  generalize ht : roomsM (sortS st) = t
  intro stE f
  have sm := f.sm
  have t8 := f.t8
  have rE := rooms_ok st (by have := f.st8; omega) (Ms ns k0 v0) (ms_below ns k0 v0)
  rw [ht] at rE
  show cleanD [] (b_law (startD 21 [.sq (ns.map D.int)]) []) = _
  -- the state, the stays, the rooms, the counts
  have s1 : sSet 1 (fBox (fItems (fCons (fV 0) (fCons (fC (.int 0)) (fCons (fC (.int 0)) fNil))))) (startD 21 [.sq (ns.map D.int)]) [] = .next ((startD 21 [.sq (ns.map D.int)]).set 1 (some (.obj 0))) (Ms ns 0 0) :=
    set_eq (box_eq (items_eq (cons_eq (v_eq rfl) (cons_eq c_eq (cons1_eq c_eq))) (by simp)))
  have h1 : Has ((startD 21 [.sq (ns.map D.int)]).set 1 (some (.obj 0))) [(1, .obj 0)] := ⟨by simp [startD], fun p hp => by simp at hp; subst hp; rfl⟩
  have s2 := set_eq (i := 2) ((call_eq (S := S__law_stays) (n := 1) (cons1_eq (h1.v (i := 1) (d := .obj 0) (by simp) (Ms ns 0 0))) rfl).trans stE)
  have h2 := h1.put (i := 2) (dR st) (by decide) (by simp)
  have s3 := set_eq (i := 3) ((call_eq (S := S_rooms) (n := 1) (fa := fCons (fTree (fBl dList (fCons (fV 2) fNil))) fNil) (cons1_eq (tree_eq ((bl_eq (cons1_eq (h2.v (i := 2) (d := dR st) (by simp) (Ms ns k0 v0)))).trans (list_l _ _)))) rfl).trans rE)
  have h3 := h2.put (i := 3) (dT t) (by decide) (by simp)
  have s4 := set_eq (i := 4) (tree_eq (nights_lc sm _ (Ms ns k0 v0) 3 6 5 (h3.at (d := dT t) (by simp)) (by rw [h3.n]; decide) (by rw [h3.n]; decide) (by decide)))
  have h4 := h3.put (i := 4) (.lst ((t.map spanR).map D.int)) (by decide) (by simp)
  obtain ⟨md, md1, md2, md3, md4⟩ := most_val sm (Ms ns k0 v0)
  have nE : fCall S_nights_taken 1 [] (fCons (fV 3) fNil) _ (Ms ns k0 v0) = .ok (.lst ((t.map spanR).map D.int)) (Ms ns k0 v0) := (call_eq (cons1_eq (h4.v (i := 3) (d := dT t) (by simp) (Ms ns k0 v0))) rfl).trans (by rw [nights_ok t sm.l sm.r, map_map_int])
  have cf : D.fit 9 (.lst ((t.map spanR).map D.int)) = true := fit_le (n := 1) (fit_lst (fits_map _ _ fun s _ => by simp [D.fit])) (by decide)
  have i5 := if_nx (a := sRet (fC (.bl false))) (or_eq (tne_refl nE (h4.v (i := 4) (by simp) (Ms ns k0 v0)) rfl cf) (tne_refl ((call_eq (S := S_most_room) (n := 1) (cons1_eq (h4.v (i := 3) (d := dT t) (by simp) (Ms ns k0 v0))) rfl).trans md3) (md4 _ (h4.at (by simp))) md1 md2))
  -- the lines
  have lf : D.fit 9 (.lst (t.map fun r => .str (rowS r))) = true := fit_le (n := 1) (fit_lst (fits_map _ _ fun s _ => by simp [D.fit])) (by decide)
  have i6 := if_nx (a := sRet (fC (.bl false))) (tne_refl ((call_eq (S := S_room_lines) (n := 1) (cons1_eq (h4.v (i := 3) (d := dT t) (by simp) (Ms ns k0 v0))) rfl).trans (lines_ok sm f.so _)) (tree_eq (lines_lc sm f.so _ (Ms ns k0 v0) 3 6 5 (h4.at (by simp)) (by rw [h4.n]; decide) (by rw [h4.n]; decide))) rfl lf)
  -- together
  obtain ⟨ρ7, μ7, e7, h7, em7⟩ := forL_inv (gd := none) (a := aNm 7) (b := sIf (Z.tCmp dNe (fCall S_together 2 [] (fCons (fV 3) (fCons (fV 7) fNil))) (fTree (fLc (iRg1 (fBi dLen (fCons (fV 3) fNil))) (aNm 8) (Z.tCmp dIn (fV 7) (fTree (fLc (iVal (fIx (fV 3) (fV 8))) (aNm 5) tYes (fIx (fV 5) (fC (.int 2))) [5]))) (fV 8) [8]))) (sRet (fC (.bl false))) sNext) D.str
    (fun _ ρ μ => Has ρ [(1, .obj 0), (2, dR st), (3, dT t)] ∧ μ = Ms ns k0 v0) [Str.ofString "aa", Str.ofString "ab", Str.ofString "zz"] ⟨h4.sub (by simp), rfl⟩ fun n rest ρ μ ⟨hh, em⟩ => by
      subst em
      have hp := hh.put (i := 7) (.str n) (by decide) (by simp)
      have q1 := (call_eq (S := S_together) (n := 2) (cons_eq (hp.v (i := 3) (d := dT t) (by simp) (Ms ns k0 v0)) (cons1_eq (hp.v (i := 7) (d := .str n) (by simp) _))) rfl).trans (together_ok sm n _)
      have q2 := tree_eq (together2_lc sm n _ (Ms ns k0 v0) 3 7 8 5 (hp.at (d := dT t) (by simp)) (hp.at (d := .str n) (by simp)) (by rw [hp.n]; decide) (by rw [hp.n]; decide) (by decide) (by decide))
      exact ⟨_, rfl, _, _, if_nx (tne_refl q1 q2 rfl (ints_fit _)), trivial, hp.sub (by simp), rfl⟩
  subst em7
  have hi7 : ∀ ρ : Z.Env, iVal (fTree (fItems (fCons (fC (.str "aa")) (fCons (fC (.str "ab")) (fCons (fC (.str "zz")) fNil))))) ρ (Ms ns k0 v0) = .ok ⟨[Str.ofString "aa", Str.ofString "ab", Str.ofString "zz"].map D.str, none⟩ (Ms ns k0 v0) := fun ρ => val_eq (tree_eq (items_eq (cons_eq c_eq (cons_eq c_eq (cons1_eq c_eq))) (by simp))) (wk_l _ _)
  have l7 := (for_eq (hi7 _)).trans e7
  -- who comes, who leaves
  obtain ⟨r9, k9, v9, a9, b9, c9⟩ := take_call ns k0 v0 15 (by decide) (by decide) (by omega)
  have s9 := set_eq (i := 9) (c9 ρ7 1 (fC (.int 15)) (h7.at (by simp)) rfl)
  have h9 := h7.put (i := 9) (.int r9) (by decide) (by simp)
  have s10 := set_eq (i := 10) (lst_nil_e (ρ := ρ7.set 9 (some (.int r9))) (μ := Ms ns k9 v9))
  have h10 := h9.put (i := 10) (.lst []) (by decide) (by simp)
  have s11 := set_eq (i := 11) (lst_nil_e (ρ := (ρ7.set 9 (some (.int r9))).set 10 (some (.lst []))) (μ := Ms ns k9 v9))
  have h11 := h10.put (i := 11) (.lst []) (by decide) (by simp)
  obtain ⟨ρ12, l12, n12, o12, c12, d12⟩ := ch_loop sm (by have := f.f8; omega) r9 _ (Ms ns k9 v9) 3 9 10 11 8 5 (h11.at (d := dT t) (by simp)) (h11.at (by simp)) (h11.at (by simp)) (h11.at (by simp)) (by rw [h11.n]; decide) (by rw [h11.n]; decide) (by rw [h11.n]; decide) (by rw [h11.n]; decide) (by decide) (by decide) (by decide) (by decide) (by decide) (by decide) (by decide) (by decide) (by decide) (by decide) (by decide) (by decide) (by decide)
  have h12 : Has ρ12 [(9, .int r9), (1, .obj 0), (2, dR st), (3, dT t)] := ⟨n12.trans h11.n, fun p hp => by
    simp only [List.mem_cons, List.not_mem_nil, or_false] at hp
    rcases hp with rfl | rfl | rfl | rfl
    · exact (o12 9 (by decide) (by decide) (by decide)).trans (h11.at (by simp))
    · exact (o12 1 (by decide) (by decide) (by decide)).trans (h11.at (by simp))
    · exact (o12 2 (by decide) (by decide) (by decide)).trans (h11.at (by simp))
    · exact (o12 3 (by decide) (by decide) (by decide)).trans (h11.at (by simp))⟩
  have i13 := if_nx (a := sRet (fC (.bl false))) (tne_refl ((call_eq (S := S_changes) (n := 2) (cons_eq (h12.v (i := 3) (d := dT t) (by simp) (Ms ns k9 v9)) (cons1_eq (h12.v (i := 9) (d := .int r9) (by simp) _))) rfl).trans (changes_ok sm (by have := f.f8; omega) r9 _)) (tup_eq (cons_eq (v_eq c12) (cons1_eq (v_eq d12))) (by simp)) rfl (by
    have a1 := fit_le (come_fit t (fun s => decide (s.a = (r9 : Int))) (List.range t.length)) (show 3 ≤ 8 by decide)
    have a2 := fit_le (come_fit t (fun s => decide (s.b = (r9 : Int) - 1)) (List.range t.length)) (show 3 ≤ 8 by decide)
    simp only [D.fit, D.fits] at a1 a2 ⊢
    rw [a1, a2]; rfl))
  -- the turns
  obtain ⟨ρ14, μ14, e14, k14, v14, em14, hk14, h14⟩ := forL_inv (gd := none) (a := aNm 8) (b := bL) (fun i : Nat => D.int (i : Int)) (fun rest ρ μ => ∃ (k : Nat) (v : Int), μ = Ms ns k v ∧ k + 5 * rest.length ≤ 100 ∧ Has ρ [(1, .obj 0), (2, dR st), (3, dT t)]) (List.range 4) ⟨k9, v9, rfl, by simp; omega, h12.sub (by simp)⟩ fun i rest ρ μ ⟨k, v, em, hk, hh⟩ => by
      subst em
      rw [List.length_cons] at hk
      have hp := hh.put (i := 8) (.int (i : Int)) (by decide) (by simp)
      obtain ⟨ρ', k', v', g1, g2, g3⟩ := bL_ok ns f i k v (by omega) hp
      exact ⟨_, rfl, ρ', _, g1, trivial, k', v', rfl, by omega, g3⟩
  subst em14
  have l14 := (for_eq (rg1_ok (n := 4) (a := fC (.int 4)) (ρ := ρ12) (μ := Ms ns k9 v9) (μ' := Ms ns k9 v9) rfl (by decide))).trans e14
  -- the end
  have fE : D.fits 8 (t.map dR) = true := fits_map _ _ fun r _ => fit_le (fit_R r) (by decide)
  have c1 := fc_eq (c := dEq) (h14.v (i := 3) (d := dT t) (by simp) (Ms ns k14 v14)) lst_nil_e (dEq_nil fE _)
  have tup : fTup (fCons (fC (.int 90)) (fCons (fC (.int 91)) (fCons (fC (.str "zz")) (fCons (fC (.int 1)) fNil)))) ρ14 (Ms ns k14 v14) = .ok (.tup [.int 90, .int 91, .str (Str.ofString "zz"), .int 1]) (Ms ns k14 v14) := tup_eq (cons_eq c_eq (cons_eq c_eq (cons_eq c_eq (cons1_eq c_eq)))) (by simp)
  have c2 := fc_eq (c := dIs) ((call_eq (S := S__law_told) (n := 5) (fa := fCons (fC (.int 0)) (fCons (fV 3) (fCons (fC (.bl true)) (fCons (fC (.int 0)) (fCons (fTup (fCons (fC (.int 90)) (fCons (fC (.int 91)) (fCons (fC (.str "zz")) (fCons (fC (.int 1)) fNil))))) fNil))))) (cons_eq c_eq (cons_eq (h14.v (i := 3) (d := dT t) (by simp) (Ms ns k14 v14)) (cons_eq c_eq (cons_eq c_eq (cons1_eq tup))))) rfl).trans (told_put_bl (t := t) _ _ _)) (c_eq (d := .non)) (is_non _)
  have c3 := fc_eq (c := dIs) ((call_eq (S := S__law_told) (n := 5) (fa := fCons (fC (.int 1)) (fCons (fV 3) (fCons (fOp2 dSub (fC (.int 0)) (fC (.int 1))) (fCons (fC (.int 0)) (fCons (fC (.int 5)) fNil))))) (cons_eq c_eq (cons_eq (h14.v (i := 3) (d := dT t) (by simp) (Ms ns k14 v14)) (cons_eq (d := .int (-1)) rfl (cons_eq c_eq (cons1_eq c_eq))))) rfl).trans (told_ex_neg (t := t) _ _)) (c_eq (d := .non)) (is_non _)
  have fin : fOr (fCmp dEq (fV 3) (fTree (fItems fNil))) (fAnd (fCmp dIs (fCall S__law_told 5 [] (fCons (fC (.int 0)) (fCons (fV 3) (fCons (fC (.bl true)) (fCons (fC (.int 0)) (fCons (fTup (fCons (fC (.int 90)) (fCons (fC (.int 91)) (fCons (fC (.str "zz")) (fCons (fC (.int 1)) fNil))))) fNil)))))) (fC .non)) (fCmp dIs (fCall S__law_told 5 [] (fCons (fC (.int 1)) (fCons (fV 3) (fCons (fOp2 dSub (fC (.int 0)) (fC (.int 1))) (fCons (fC (.int 0)) (fCons (fC (.int 5)) fNil)))))) (fC .non))) ρ14 (Ms ns k14 v14) = .ok (.bl true) (Ms ns k14 v14) := by
    unfold fOr
    rw [c1, bind_ok]
    show (R.ofP _ (some _)).bind _ = _
    rw [ofP_some, bind_ok]
    split
    · rfl
    · unfold fAnd
      rw [c2, bind_ok]
      show (R.ofP _ (some true)).bind _ = _
      rw [ofP_some, bind_ok, if_pos rfl, c3]
  have body : b_law (startD 21 [.sq (ns.map D.int)]) [] = .ret (.bl true) (Ms ns k14 v14) :=
    (seq_nx s1).trans ((seq_nx s2).trans ((seq_nx s3).trans ((seq_nx s4).trans ((seq_nx i5).trans ((seq_nx i6).trans ((seq_nx l7).trans ((seq_nx s9).trans ((seq_nx s10).trans ((seq_nx s11).trans ((seq_nx l12).trans ((seq_nx i13).trans ((seq_nx l14).trans (ret_eq fin)))))))))))))
  rw [body]
  rfl
end K25

namespace K25
open PySem PySem.Spec PyProof.Rows L2 Z
theorem all_mk {P : Program} {w : World} {K : PySem.W.Frag} {h : Heap} {mg : Str → Option Value} {fa : Addr} (X : K.In h) (G : h.Ns mainGlobals mg) (hfa : mg "law" = some (.ref fa)) {f_rooms f_is_housed f_free_rooms f_exchange f_nights_taken f_changes f_together f_room_lines f__law_cell f__law_sleeping f__law_housed f__law_free f__law_exchanged f_put_in f_most_room f__law_take f__law_stays f__law_told f_law : Addr} {a_InvalidPaper : Addr}
  {oc_rooms kV_rooms dc_rooms pm_rooms cd_rooms ct_rooms : Value} {od_rooms an_rooms : Option Addr} {sl_rooms : Array (Option Value)}
  {oc_is_housed kV_is_housed dc_is_housed pm_is_housed cd_is_housed ct_is_housed : Value} {od_is_housed an_is_housed : Option Addr} {sl_is_housed : Array (Option Value)}
  {oc_free_rooms kV_free_rooms dc_free_rooms pm_free_rooms cd_free_rooms ct_free_rooms : Value} {od_free_rooms an_free_rooms : Option Addr} {sl_free_rooms : Array (Option Value)}
  {oc_exchange kV_exchange dc_exchange pm_exchange cd_exchange ct_exchange : Value} {od_exchange an_exchange : Option Addr} {sl_exchange : Array (Option Value)}
  {oc_nights_taken kV_nights_taken dc_nights_taken pm_nights_taken cd_nights_taken ct_nights_taken : Value} {od_nights_taken an_nights_taken : Option Addr} {sl_nights_taken : Array (Option Value)}
  {oc_changes kV_changes dc_changes pm_changes cd_changes ct_changes : Value} {od_changes an_changes : Option Addr} {sl_changes : Array (Option Value)}
  {oc_together kV_together dc_together pm_together cd_together ct_together : Value} {od_together an_together : Option Addr} {sl_together : Array (Option Value)}
  {oc_room_lines kV_room_lines dc_room_lines pm_room_lines cd_room_lines ct_room_lines : Value} {od_room_lines an_room_lines : Option Addr} {sl_room_lines : Array (Option Value)}
  {oc__law_cell kV__law_cell dc__law_cell pm__law_cell cd__law_cell ct__law_cell : Value} {od__law_cell an__law_cell : Option Addr} {sl__law_cell : Array (Option Value)}
  {oc__law_sleeping kV__law_sleeping dc__law_sleeping pm__law_sleeping cd__law_sleeping ct__law_sleeping : Value} {od__law_sleeping an__law_sleeping : Option Addr} {sl__law_sleeping : Array (Option Value)}
  {oc__law_housed kV__law_housed dc__law_housed pm__law_housed cd__law_housed ct__law_housed : Value} {od__law_housed an__law_housed : Option Addr} {sl__law_housed : Array (Option Value)}
  {oc__law_free kV__law_free dc__law_free pm__law_free cd__law_free ct__law_free : Value} {od__law_free an__law_free : Option Addr} {sl__law_free : Array (Option Value)}
  {oc__law_exchanged kV__law_exchanged dc__law_exchanged pm__law_exchanged cd__law_exchanged ct__law_exchanged : Value} {od__law_exchanged an__law_exchanged : Option Addr} {sl__law_exchanged : Array (Option Value)}
  {oc_put_in kV_put_in dc_put_in pm_put_in cd_put_in ct_put_in : Value} {od_put_in an_put_in : Option Addr} {sl_put_in : Array (Option Value)}
  {oc_most_room kV_most_room dc_most_room pm_most_room cd_most_room ct_most_room : Value} {od_most_room an_most_room : Option Addr} {sl_most_room : Array (Option Value)}
  {oc__law_take kV__law_take dc__law_take pm__law_take cd__law_take ct__law_take : Value} {od__law_take an__law_take : Option Addr} {sl__law_take : Array (Option Value)}
  {oc__law_stays kV__law_stays dc__law_stays pm__law_stays cd__law_stays ct__law_stays : Value} {od__law_stays an__law_stays : Option Addr} {sl__law_stays : Array (Option Value)}
  {oc__law_told kV__law_told dc__law_told pm__law_told cd__law_told ct__law_told : Value} {od__law_told an__law_told : Option Addr} {sl__law_told : Array (Option Value)}
  {oc_law kV_law dc_law pm_law cd_law ct_law : Value} {od_law an_law : Option Addr} {sl_law : Array (Option Value)}
  (h1_rooms : PySem.W.nsIn K mainGlobals "rooms" = some (some (.ref f_rooms))) (h2_rooms : K.lookup f_rooms = some ⟨oc_rooms, od_rooms, .func (PySem.W.fnOf "rooms" "rooms" (defArgs s_rooms) (defBody s_rooms) (defScope s_rooms) .none kV_rooms dc_rooms pm_rooms an_rooms cd_rooms ct_rooms), sl_rooms⟩) (h3_rooms : PySem.W.codeIn K cd_rooms "rooms" = true) (h4_rooms : PySem.W.keepIn K (.ref f_rooms) = true)
  (h1_is_housed : PySem.W.nsIn K mainGlobals "is_housed" = some (some (.ref f_is_housed))) (h2_is_housed : K.lookup f_is_housed = some ⟨oc_is_housed, od_is_housed, .func (PySem.W.fnOf "is_housed" "is_housed" (defArgs s_is_housed) (defBody s_is_housed) (defScope s_is_housed) .none kV_is_housed dc_is_housed pm_is_housed an_is_housed cd_is_housed ct_is_housed), sl_is_housed⟩) (h3_is_housed : PySem.W.codeIn K cd_is_housed "is_housed" = true) (h4_is_housed : PySem.W.keepIn K (.ref f_is_housed) = true)
  (h1_free_rooms : PySem.W.nsIn K mainGlobals "free_rooms" = some (some (.ref f_free_rooms))) (h2_free_rooms : K.lookup f_free_rooms = some ⟨oc_free_rooms, od_free_rooms, .func (PySem.W.fnOf "free_rooms" "free_rooms" (defArgs s_free_rooms) (defBody s_free_rooms) (defScope s_free_rooms) .none kV_free_rooms dc_free_rooms pm_free_rooms an_free_rooms cd_free_rooms ct_free_rooms), sl_free_rooms⟩) (h3_free_rooms : PySem.W.codeIn K cd_free_rooms "free_rooms" = true) (h4_free_rooms : PySem.W.keepIn K (.ref f_free_rooms) = true)
  (h1_exchange : PySem.W.nsIn K mainGlobals "exchange" = some (some (.ref f_exchange))) (h2_exchange : K.lookup f_exchange = some ⟨oc_exchange, od_exchange, .func (PySem.W.fnOf "exchange" "exchange" (defArgs s_exchange) (defBody s_exchange) (defScope s_exchange) .none kV_exchange dc_exchange pm_exchange an_exchange cd_exchange ct_exchange), sl_exchange⟩) (h3_exchange : PySem.W.codeIn K cd_exchange "exchange" = true) (h4_exchange : PySem.W.keepIn K (.ref f_exchange) = true)
  (h1_nights_taken : PySem.W.nsIn K mainGlobals "nights_taken" = some (some (.ref f_nights_taken))) (h2_nights_taken : K.lookup f_nights_taken = some ⟨oc_nights_taken, od_nights_taken, .func (PySem.W.fnOf "nights_taken" "nights_taken" (defArgs s_nights_taken) (defBody s_nights_taken) (defScope s_nights_taken) .none kV_nights_taken dc_nights_taken pm_nights_taken an_nights_taken cd_nights_taken ct_nights_taken), sl_nights_taken⟩) (h3_nights_taken : PySem.W.codeIn K cd_nights_taken "nights_taken" = true) (h4_nights_taken : PySem.W.keepIn K (.ref f_nights_taken) = true)
  (h1_changes : PySem.W.nsIn K mainGlobals "changes" = some (some (.ref f_changes))) (h2_changes : K.lookup f_changes = some ⟨oc_changes, od_changes, .func (PySem.W.fnOf "changes" "changes" (defArgs s_changes) (defBody s_changes) (defScope s_changes) .none kV_changes dc_changes pm_changes an_changes cd_changes ct_changes), sl_changes⟩) (h3_changes : PySem.W.codeIn K cd_changes "changes" = true) (h4_changes : PySem.W.keepIn K (.ref f_changes) = true)
  (h1_together : PySem.W.nsIn K mainGlobals "together" = some (some (.ref f_together))) (h2_together : K.lookup f_together = some ⟨oc_together, od_together, .func (PySem.W.fnOf "together" "together" (defArgs s_together) (defBody s_together) (defScope s_together) .none kV_together dc_together pm_together an_together cd_together ct_together), sl_together⟩) (h3_together : PySem.W.codeIn K cd_together "together" = true) (h4_together : PySem.W.keepIn K (.ref f_together) = true)
  (h1_room_lines : PySem.W.nsIn K mainGlobals "room_lines" = some (some (.ref f_room_lines))) (h2_room_lines : K.lookup f_room_lines = some ⟨oc_room_lines, od_room_lines, .func (PySem.W.fnOf "room_lines" "room_lines" (defArgs s_room_lines) (defBody s_room_lines) (defScope s_room_lines) .none kV_room_lines dc_room_lines pm_room_lines an_room_lines cd_room_lines ct_room_lines), sl_room_lines⟩) (h3_room_lines : PySem.W.codeIn K cd_room_lines "room_lines" = true) (h4_room_lines : PySem.W.keepIn K (.ref f_room_lines) = true)
  (h1__law_cell : PySem.W.nsIn K mainGlobals "_law_cell" = some (some (.ref f__law_cell))) (h2__law_cell : K.lookup f__law_cell = some ⟨oc__law_cell, od__law_cell, .func (PySem.W.fnOf "_law_cell" "_law_cell" (defArgs s__law_cell) (defBody s__law_cell) (defScope s__law_cell) .none kV__law_cell dc__law_cell pm__law_cell an__law_cell cd__law_cell ct__law_cell), sl__law_cell⟩) (h3__law_cell : PySem.W.codeIn K cd__law_cell "_law_cell" = true) (h4__law_cell : PySem.W.keepIn K (.ref f__law_cell) = true)
  (h1__law_sleeping : PySem.W.nsIn K mainGlobals "_law_sleeping" = some (some (.ref f__law_sleeping))) (h2__law_sleeping : K.lookup f__law_sleeping = some ⟨oc__law_sleeping, od__law_sleeping, .func (PySem.W.fnOf "_law_sleeping" "_law_sleeping" (defArgs s__law_sleeping) (defBody s__law_sleeping) (defScope s__law_sleeping) .none kV__law_sleeping dc__law_sleeping pm__law_sleeping an__law_sleeping cd__law_sleeping ct__law_sleeping), sl__law_sleeping⟩) (h3__law_sleeping : PySem.W.codeIn K cd__law_sleeping "_law_sleeping" = true) (h4__law_sleeping : PySem.W.keepIn K (.ref f__law_sleeping) = true)
  (h1__law_housed : PySem.W.nsIn K mainGlobals "_law_housed" = some (some (.ref f__law_housed))) (h2__law_housed : K.lookup f__law_housed = some ⟨oc__law_housed, od__law_housed, .func (PySem.W.fnOf "_law_housed" "_law_housed" (defArgs s__law_housed) (defBody s__law_housed) (defScope s__law_housed) .none kV__law_housed dc__law_housed pm__law_housed an__law_housed cd__law_housed ct__law_housed), sl__law_housed⟩) (h3__law_housed : PySem.W.codeIn K cd__law_housed "_law_housed" = true) (h4__law_housed : PySem.W.keepIn K (.ref f__law_housed) = true)
  (h1__law_free : PySem.W.nsIn K mainGlobals "_law_free" = some (some (.ref f__law_free))) (h2__law_free : K.lookup f__law_free = some ⟨oc__law_free, od__law_free, .func (PySem.W.fnOf "_law_free" "_law_free" (defArgs s__law_free) (defBody s__law_free) (defScope s__law_free) .none kV__law_free dc__law_free pm__law_free an__law_free cd__law_free ct__law_free), sl__law_free⟩) (h3__law_free : PySem.W.codeIn K cd__law_free "_law_free" = true) (h4__law_free : PySem.W.keepIn K (.ref f__law_free) = true)
  (h1__law_exchanged : PySem.W.nsIn K mainGlobals "_law_exchanged" = some (some (.ref f__law_exchanged))) (h2__law_exchanged : K.lookup f__law_exchanged = some ⟨oc__law_exchanged, od__law_exchanged, .func (PySem.W.fnOf "_law_exchanged" "_law_exchanged" (defArgs s__law_exchanged) (defBody s__law_exchanged) (defScope s__law_exchanged) .none kV__law_exchanged dc__law_exchanged pm__law_exchanged an__law_exchanged cd__law_exchanged ct__law_exchanged), sl__law_exchanged⟩) (h3__law_exchanged : PySem.W.codeIn K cd__law_exchanged "_law_exchanged" = true) (h4__law_exchanged : PySem.W.keepIn K (.ref f__law_exchanged) = true)
  (h1_put_in : PySem.W.nsIn K mainGlobals "put_in" = some (some (.ref f_put_in))) (h2_put_in : K.lookup f_put_in = some ⟨oc_put_in, od_put_in, .func (PySem.W.fnOf "put_in" "put_in" (defArgs s_put_in) (defBody s_put_in) (defScope s_put_in) .none kV_put_in dc_put_in pm_put_in an_put_in cd_put_in ct_put_in), sl_put_in⟩) (h3_put_in : PySem.W.codeIn K cd_put_in "put_in" = true) (h4_put_in : PySem.W.keepIn K (.ref f_put_in) = true)
  (h1_most_room : PySem.W.nsIn K mainGlobals "most_room" = some (some (.ref f_most_room))) (h2_most_room : K.lookup f_most_room = some ⟨oc_most_room, od_most_room, .func (PySem.W.fnOf "most_room" "most_room" (defArgs s_most_room) (defBody s_most_room) (defScope s_most_room) .none kV_most_room dc_most_room pm_most_room an_most_room cd_most_room ct_most_room), sl_most_room⟩) (h3_most_room : PySem.W.codeIn K cd_most_room "most_room" = true) (h4_most_room : PySem.W.keepIn K (.ref f_most_room) = true)
  (h1__law_take : PySem.W.nsIn K mainGlobals "_law_take" = some (some (.ref f__law_take))) (h2__law_take : K.lookup f__law_take = some ⟨oc__law_take, od__law_take, .func (PySem.W.fnOf "_law_take" "_law_take" (defArgs s__law_take) (defBody s__law_take) (defScope s__law_take) .none kV__law_take dc__law_take pm__law_take an__law_take cd__law_take ct__law_take), sl__law_take⟩) (h3__law_take : PySem.W.codeIn K cd__law_take "_law_take" = true) (h4__law_take : PySem.W.keepIn K (.ref f__law_take) = true)
  (h1__law_stays : PySem.W.nsIn K mainGlobals "_law_stays" = some (some (.ref f__law_stays))) (h2__law_stays : K.lookup f__law_stays = some ⟨oc__law_stays, od__law_stays, .func (PySem.W.fnOf "_law_stays" "_law_stays" (defArgs s__law_stays) (defBody s__law_stays) (defScope s__law_stays) .none kV__law_stays dc__law_stays pm__law_stays an__law_stays cd__law_stays ct__law_stays), sl__law_stays⟩) (h3__law_stays : PySem.W.codeIn K cd__law_stays "_law_stays" = true) (h4__law_stays : PySem.W.keepIn K (.ref f__law_stays) = true)
  (h1__law_told : PySem.W.nsIn K mainGlobals "_law_told" = some (some (.ref f__law_told))) (h2__law_told : K.lookup f__law_told = some ⟨oc__law_told, od__law_told, .func (PySem.W.fnOf "_law_told" "_law_told" (defArgs s__law_told) (defBody s__law_told) (defScope s__law_told) .none kV__law_told dc__law_told pm__law_told an__law_told cd__law_told ct__law_told), sl__law_told⟩) (h3__law_told : PySem.W.codeIn K cd__law_told "_law_told" = true) (h4__law_told : PySem.W.keepIn K (.ref f__law_told) = true)
  (h1_law : PySem.W.nsIn K mainGlobals "law" = some (some (.ref f_law))) (h2_law : K.lookup f_law = some ⟨oc_law, od_law, .func (PySem.W.fnOf "law" "law" (defArgs s_law) (defBody s_law) (defScope s_law) .none kV_law dc_law pm_law an_law cd_law ct_law), sl_law⟩) (h3_law : PySem.W.codeIn K cd_law "law" = true) (h4_law : PySem.W.keepIn K (.ref f_law) = true)
  (z_sorted : PySem.W.nsIn K mainGlobals "sorted" = some none)
  (z_len : PySem.W.nsIn K mainGlobals "len" = some none)
  (z_range : PySem.W.nsIn K mainGlobals "range" = some none)
  (z_list : PySem.W.nsIn K mainGlobals "list" = some none)
  (z_isinstance : PySem.W.nsIn K mainGlobals "isinstance" = some none)
  (z_bool : PySem.W.nsIn K mainGlobals "bool" = some none)
  (z_max : PySem.W.nsIn K mainGlobals "max" = some none)
  (z_sum : PySem.W.nsIn K mainGlobals "sum" = some none)
  (z_str : PySem.W.nsIn K mainGlobals "str" = some none)
  (z_abs : PySem.W.nsIn K mainGlobals "abs" = some none)
  (z_int : PySem.W.nsIn K mainGlobals "int" = some none)
  (y1_InvalidPaper : PySem.W.nsIn K mainGlobals "InvalidPaper" = some (some (.ref a_InvalidPaper))) (y2_InvalidPaper : PySem.W.subIn K (.ref a_InvalidPaper) (.type "BaseException") = some true) (y3_InvalidPaper : PySem.W.typeIn K (.ref a_InvalidPaper) = some (.type "type"))
  (y4_InvalidPaper : PySem.W.excIn K a_InvalidPaper [.type "ValueError", .type "Exception", .type "BaseException", .type "object"] "ValueError.__new__" = true) (y5_InvalidPaper : PySem.W.keepIn K (.ref a_InvalidPaper) = true)
  (y6_InvalidPaper : PySem.W.hasDictIn K a_InvalidPaper = true)
  (y7_InvalidPaper_InvalidPaper : PySem.W.subIn K (.ref a_InvalidPaper) (.ref a_InvalidPaper) = some true)
  (hS : ∀ ns : List Int, ns.length ≤ 63 → (∀ z ∈ ns, Builtin.Int.intBits z ≤ 1048576) → ∃ μ, S_law [.sq (ns.map D.int)] [] = .ok (.bl true) μ) :
  ∃ fd : FuncData, (∀ (s : Shared) (v : Value), BindsTo s fd ⟨[v], []⟩ [("script", v)]) ∧ ∀ base : Heap, K.In base → base.Ns mainGlobals mg → FnOk P w K mg base (L2.CX P w) 4 fa fd ["script"] (spLawZ K) := by
  have e := hfa.symm.trans (PySem.W.mg_of X G h1_law)
  cases e
  let F : Fx := { K := K, cl := fun _ => none, xc := xcOf mg, xo := none }
  have M : Mod K mg F := {
    g_sorted := PySem.W.mg_none_of X G z_sorted
    g_len := PySem.W.mg_none_of X G z_len
    g_range := PySem.W.mg_none_of X G z_range
    g_list := PySem.W.mg_none_of X G z_list
    g_isinstance := PySem.W.mg_none_of X G z_isinstance
    g_bool := PySem.W.mg_none_of X G z_bool
    g_max := PySem.W.mg_none_of X G z_max
    g_sum := PySem.W.mg_none_of X G z_sum
    g_str := PySem.W.mg_none_of X G z_str
    g_abs := PySem.W.mg_none_of X G z_abs
    g_int := PySem.W.mg_none_of X G z_int
    x_InvalidPaper := ⟨a_InvalidPaper, PySem.W.mg_of X G y1_InvalidPaper, xcOf_of (PySem.W.mg_of X G y1_InvalidPaper), y4_InvalidPaper, y5_InvalidPaper, y2_InvalidPaper, y3_InvalidPaper⟩
    t_InvalidPaper := ⟨.ref a_InvalidPaper, PySem.W.mg_of X G y1_InvalidPaper, fun cls b C h1 h2 => by
      unfold cat_InvalidPaper at h1
      split at h1
      · rename_i e0; subst e0; cases h1; have e1 : some a_InvalidPaper = some C := (xcOf_of (PySem.W.mg_of X G y1_InvalidPaper)).symm.trans h2; cases e1; exact PySem.W.exm_ref y2_InvalidPaper y6_InvalidPaper y3_InvalidPaper y7_InvalidPaper_InvalidPaper
      cases h1⟩ }
  have F_rooms := fun_mk (st := s_rooms) h2_rooms h3_rooms h4_rooms
  have F_is_housed := fun_mk (st := s_is_housed) h2_is_housed h3_is_housed h4_is_housed
  have F_free_rooms := fun_mk (st := s_free_rooms) h2_free_rooms h3_free_rooms h4_free_rooms
  have F_exchange := fun_mk (st := s_exchange) h2_exchange h3_exchange h4_exchange
  have F_nights_taken := fun_mk (st := s_nights_taken) h2_nights_taken h3_nights_taken h4_nights_taken
  have F_changes := fun_mk (st := s_changes) h2_changes h3_changes h4_changes
  have F_together := fun_mk (st := s_together) h2_together h3_together h4_together
  have F_room_lines := fun_mk (st := s_room_lines) h2_room_lines h3_room_lines h4_room_lines
  have F__law_cell := fun_mk (st := s__law_cell) h2__law_cell h3__law_cell h4__law_cell
  have F__law_sleeping := fun_mk (st := s__law_sleeping) h2__law_sleeping h3__law_sleeping h4__law_sleeping
  have F__law_housed := fun_mk (st := s__law_housed) h2__law_housed h3__law_housed h4__law_housed
  have F__law_free := fun_mk (st := s__law_free) h2__law_free h3__law_free h4__law_free
  have F__law_exchanged := fun_mk (st := s__law_exchanged) h2__law_exchanged h3__law_exchanged h4__law_exchanged
  have F_put_in := fun_mk (st := s_put_in) h2_put_in h3_put_in h4_put_in
  have F_most_room := fun_mk (st := s_most_room) h2_most_room h3_most_room h4_most_room
  have F__law_take := fun_mk (st := s__law_take) h2__law_take h3__law_take h4__law_take
  have F__law_stays := fun_mk (st := s__law_stays) h2__law_stays h3__law_stays h4__law_stays
  have F__law_told := fun_mk (st := s__law_told) h2__law_told h3__law_told h4__law_told
  have F_law := fun_mk (st := s_law) h2_law h3_law h4_law
  refine ⟨PySem.W.fnOf "law" "law" (defArgs s_law) (defBody s_law) (defScope s_law) .none kV_law dc_law pm_law an_law cd_law ct_law, fun s v => .of_eq rfl, fun base _ _ => ?_⟩
  have c_rooms : Cal P w K mg base F 1 "rooms" 1 [] S_rooms := cal_dfn (PySem.W.mg_of X G h1_rooms) F_rooms (F_rooms.binds (ps := ["stays"]) fun _ _ _ _ _ _ us hl => match us, hl with | [_], _ => rfl) sc_rooms rfl (d_rooms (K := K) (mg := mg) (base := base) rfl M )
  have c_is_housed : Cal P w K mg base F 1 "is_housed" 2 [] S_is_housed := cal_dfn (PySem.W.mg_of X G h1_is_housed) F_is_housed (F_is_housed.binds (ps := ["stays", "told"]) fun _ _ _ _ _ _ us hl => match us, hl with | [_, _], _ => rfl) sc_is_housed rfl (d_is_housed (K := K) (mg := mg) (base := base) rfl M )
  have c_free_rooms : Cal P w K mg base F 1 "free_rooms" 3 [] S_free_rooms := cal_dfn (PySem.W.mg_of X G h1_free_rooms) F_free_rooms (F_free_rooms.binds (ps := ["told", "first", "last"]) fun _ _ _ _ _ _ us hl => match us, hl with | [_, _, _], _ => rfl) sc_free_rooms rfl (d_free_rooms (K := K) (mg := mg) (base := base) rfl M )
  have c_exchange : Cal P w K mg base F 1 "exchange" 4 [] S_exchange := cal_dfn (PySem.W.mg_of X G h1_exchange) F_exchange (F_exchange.binds (ps := ["told", "one", "other", "night"]) fun _ _ _ _ _ _ us hl => match us, hl with | [_, _, _, _], _ => rfl) sc_exchange rfl (d_exchange (K := K) (mg := mg) (base := base) rfl M )
  have c_nights_taken : Cal P w K mg base F 1 "nights_taken" 1 [] S_nights_taken := cal_dfn (PySem.W.mg_of X G h1_nights_taken) F_nights_taken (F_nights_taken.binds (ps := ["told"]) fun _ _ _ _ _ _ us hl => match us, hl with | [_], _ => rfl) sc_nights_taken rfl (d_nights_taken (K := K) (mg := mg) (base := base) rfl M )
  have c_changes : Cal P w K mg base F 1 "changes" 2 [] S_changes := cal_dfn (PySem.W.mg_of X G h1_changes) F_changes (F_changes.binds (ps := ["told", "night"]) fun _ _ _ _ _ _ us hl => match us, hl with | [_, _], _ => rfl) sc_changes rfl (d_changes (K := K) (mg := mg) (base := base) rfl M )
  have c_together : Cal P w K mg base F 1 "together" 2 [] S_together := cal_dfn (PySem.W.mg_of X G h1_together) F_together (F_together.binds (ps := ["told", "ask"]) fun _ _ _ _ _ _ us hl => match us, hl with | [_, _], _ => rfl) sc_together rfl (d_together (K := K) (mg := mg) (base := base) rfl M )
  have c_room_lines : Cal P w K mg base F 1 "room_lines" 1 [] S_room_lines := cal_dfn (PySem.W.mg_of X G h1_room_lines) F_room_lines (F_room_lines.binds (ps := ["told"]) fun _ _ _ _ _ _ us hl => match us, hl with | [_], _ => rfl) sc_room_lines rfl (d_room_lines (K := K) (mg := mg) (base := base) rfl M )
  have c__law_cell : Cal P w K mg base F 1 "_law_cell" 2 [] S__law_cell := cal_dfn (PySem.W.mg_of X G h1__law_cell) F__law_cell (F__law_cell.binds (ps := ["script", "k"]) fun _ _ _ _ _ _ us hl => match us, hl with | [_, _], _ => rfl) sc__law_cell rfl (d__law_cell (K := K) (mg := mg) (base := base) rfl M )
  have c__law_sleeping : Cal P w K mg base F 1 "_law_sleeping" 2 [] S__law_sleeping := cal_dfn (PySem.W.mg_of X G h1__law_sleeping) F__law_sleeping (F__law_sleeping.binds (ps := ["stays", "night"]) fun _ _ _ _ _ _ us hl => match us, hl with | [_, _], _ => rfl) sc__law_sleeping rfl (d__law_sleeping (K := K) (mg := mg) (base := base) rfl M )
  have c__law_housed : Cal P w K mg base F 1 "_law_housed" 2 [] S__law_housed := cal_dfn (PySem.W.mg_of X G h1__law_housed) F__law_housed (F__law_housed.binds (ps := ["stays", "told"]) fun _ _ _ _ _ _ us hl => match us, hl with | [_, _], _ => rfl) sc__law_housed rfl (d__law_housed (K := K) (mg := mg) (base := base) rfl M )
  have c__law_free : Cal P w K mg base F 1 "_law_free" 3 [] S__law_free := cal_dfn (PySem.W.mg_of X G h1__law_free) F__law_free (F__law_free.binds (ps := ["told", "first", "last"]) fun _ _ _ _ _ _ us hl => match us, hl with | [_, _, _], _ => rfl) sc__law_free rfl (d__law_free (K := K) (mg := mg) (base := base) rfl M )
  have c__law_exchanged : Cal P w K mg base F 1 "_law_exchanged" 4 [] S__law_exchanged := cal_dfn (PySem.W.mg_of X G h1__law_exchanged) F__law_exchanged (F__law_exchanged.binds (ps := ["told", "one", "other", "night"]) fun _ _ _ _ _ _ us hl => match us, hl with | [_, _, _, _], _ => rfl) sc__law_exchanged rfl (d__law_exchanged (K := K) (mg := mg) (base := base) rfl M )
  have c_put_in : Cal P w K mg base F 2 "put_in" 3 [] S_put_in := cal_dfn (PySem.W.mg_of X G h1_put_in) F_put_in (F_put_in.binds (ps := ["told", "place", "stay"]) fun _ _ _ _ _ _ us hl => match us, hl with | [_, _, _], _ => rfl) sc_put_in rfl (d_put_in (K := K) (mg := mg) (base := base) rfl M c_free_rooms)
  have c_most_room : Cal P w K mg base F 2 "most_room" 1 [] S_most_room := cal_dfn (PySem.W.mg_of X G h1_most_room) F_most_room (F_most_room.binds (ps := ["told"]) fun _ _ _ _ _ _ us hl => match us, hl with | [_], _ => rfl) sc_most_room rfl (d_most_room (K := K) (mg := mg) (base := base) rfl M c_nights_taken)
  have c__law_take : Cal P w K mg base F 2 "_law_take" 2 [] S__law_take := cal_dfn (PySem.W.mg_of X G h1__law_take) F__law_take (F__law_take.binds (ps := ["state", "limit"]) fun _ _ _ _ _ _ us hl => match us, hl with | [_, _], _ => rfl) sc__law_take rfl (d__law_take (K := K) (mg := mg) (base := base) rfl M c__law_cell)
  have c__law_stays : Cal P w K mg base F 3 "_law_stays" 1 [] S__law_stays := cal_dfn (PySem.W.mg_of X G h1__law_stays) F__law_stays (F__law_stays.binds (ps := ["state"]) fun _ _ _ _ _ _ us hl => match us, hl with | [_], _ => rfl) sc__law_stays rfl (d__law_stays (K := K) (mg := mg) (base := base) rfl M c__law_take)
  have c__law_told : Cal P w K mg base F 3 "_law_told" 5 [] S__law_told := cal_dfn (PySem.W.mg_of X G h1__law_told) F__law_told (F__law_told.binds (ps := ["pick", "told", "one", "other", "value"]) fun _ _ _ _ _ _ us hl => match us, hl with | [_, _, _, _, _], _ => rfl) sc__law_told rfl (d__law_told (K := K) (mg := mg) (base := base) rfl M c_put_in c_exchange)
  exact FnOk.law (F := F) rfl rfl (fnD F_law sc_law rfl (d_law (K := K) (mg := mg) (base := base) rfl M c__law_stays c_rooms c_nights_taken c_most_room c_room_lines c_together c__law_take c_changes c_free_rooms c__law_free c__law_told c_is_housed c__law_exchanged) fun ds μ _ => cleanD_ref μ _) hS
end K25
open PySem PySem.W PyProof.Rows in
set_option maxRecDepth 100000 in
set_option maxHeartbeats 0 in
theorem PySem.Challenge.cw_innworth_k25_rooms_that_change_holds : PySem.Challenge.rw_innworth_k25_rooms_that_change.Holds := by
  w_on; o_law; k_head; (case hw => w_witness2)
  k_fill
  refine Z.walkZ (l := PySem.Challenge.rw_innworth_k25_rooms_that_change) (k := 4) rfl rfl ⟨rfl, by decide, by decide⟩ (fun w h Y => PySem.W.kIn_of Y) ?F
  case F =>
    intro w mg fa h KX G hmg
    refine' K25.all_mk KX G hmg ?h1_rooms ?h2_rooms ?h3_rooms ?h4_rooms ?h1_is_housed ?h2_is_housed ?h3_is_housed ?h4_is_housed ?h1_free_rooms ?h2_free_rooms ?h3_free_rooms ?h4_free_rooms ?h1_exchange ?h2_exchange ?h3_exchange ?h4_exchange ?h1_nights_taken ?h2_nights_taken ?h3_nights_taken ?h4_nights_taken ?h1_changes ?h2_changes ?h3_changes ?h4_changes ?h1_together ?h2_together ?h3_together ?h4_together ?h1_room_lines ?h2_room_lines ?h3_room_lines ?h4_room_lines ?h1__law_cell ?h2__law_cell ?h3__law_cell ?h4__law_cell ?h1__law_sleeping ?h2__law_sleeping ?h3__law_sleeping ?h4__law_sleeping ?h1__law_housed ?h2__law_housed ?h3__law_housed ?h4__law_housed ?h1__law_free ?h2__law_free ?h3__law_free ?h4__law_free ?h1__law_exchanged ?h2__law_exchanged ?h3__law_exchanged ?h4__law_exchanged ?h1_put_in ?h2_put_in ?h3_put_in ?h4_put_in ?h1_most_room ?h2_most_room ?h3_most_room ?h4_most_room ?h1__law_take ?h2__law_take ?h3__law_take ?h4__law_take ?h1__law_stays ?h2__law_stays ?h3__law_stays ?h4__law_stays ?h1__law_told ?h2__law_told ?h3__law_told ?h4__law_told ?h1_law ?h2_law ?h3_law ?h4_law ?z_sorted ?z_len ?z_range ?z_list ?z_isinstance ?z_bool ?z_max ?z_sum ?z_str ?z_abs ?z_int ?y1_InvalidPaper ?y2_InvalidPaper ?y3_InvalidPaper ?y4_InvalidPaper ?y5_InvalidPaper ?y6_InvalidPaper ?y7_InvalidPaper_InvalidPaper K25.law_ok
    (case h1_rooms => k_is)
    (case h2_rooms => k_is)
    (case h3_rooms => k_is)
    (case h4_rooms => k_is)
    (case h1_is_housed => k_is)
    (case h2_is_housed => k_is)
    (case h3_is_housed => k_is)
    (case h4_is_housed => k_is)
    (case h1_free_rooms => k_is)
    (case h2_free_rooms => k_is)
    (case h3_free_rooms => k_is)
    (case h4_free_rooms => k_is)
    (case h1_exchange => k_is)
    (case h2_exchange => k_is)
    (case h3_exchange => k_is)
    (case h4_exchange => k_is)
    (case h1_nights_taken => k_is)
    (case h2_nights_taken => k_is)
    (case h3_nights_taken => k_is)
    (case h4_nights_taken => k_is)
    (case h1_changes => k_is)
    (case h2_changes => k_is)
    (case h3_changes => k_is)
    (case h4_changes => k_is)
    (case h1_together => k_is)
    (case h2_together => k_is)
    (case h3_together => k_is)
    (case h4_together => k_is)
    (case h1_room_lines => k_is)
    (case h2_room_lines => k_is)
    (case h3_room_lines => k_is)
    (case h4_room_lines => k_is)
    (case h1__law_cell => k_is)
    (case h2__law_cell => k_is)
    (case h3__law_cell => k_is)
    (case h4__law_cell => k_is)
    (case h1__law_sleeping => k_is)
    (case h2__law_sleeping => k_is)
    (case h3__law_sleeping => k_is)
    (case h4__law_sleeping => k_is)
    (case h1__law_housed => k_is)
    (case h2__law_housed => k_is)
    (case h3__law_housed => k_is)
    (case h4__law_housed => k_is)
    (case h1__law_free => k_is)
    (case h2__law_free => k_is)
    (case h3__law_free => k_is)
    (case h4__law_free => k_is)
    (case h1__law_exchanged => k_is)
    (case h2__law_exchanged => k_is)
    (case h3__law_exchanged => k_is)
    (case h4__law_exchanged => k_is)
    (case h1_put_in => k_is)
    (case h2_put_in => k_is)
    (case h3_put_in => k_is)
    (case h4_put_in => k_is)
    (case h1_most_room => k_is)
    (case h2_most_room => k_is)
    (case h3_most_room => k_is)
    (case h4_most_room => k_is)
    (case h1__law_take => k_is)
    (case h2__law_take => k_is)
    (case h3__law_take => k_is)
    (case h4__law_take => k_is)
    (case h1__law_stays => k_is)
    (case h2__law_stays => k_is)
    (case h3__law_stays => k_is)
    (case h4__law_stays => k_is)
    (case h1__law_told => k_is)
    (case h2__law_told => k_is)
    (case h3__law_told => k_is)
    (case h4__law_told => k_is)
    (case h1_law => k_is)
    (case h2_law => k_is)
    (case h3_law => k_is)
    (case h4_law => k_is)
    (case z_sorted => k_is)
    (case z_len => k_is)
    (case z_range => k_is)
    (case z_list => k_is)
    (case z_isinstance => k_is)
    (case z_bool => k_is)
    (case z_max => k_is)
    (case z_sum => k_is)
    (case z_str => k_is)
    (case z_abs => k_is)
    (case z_int => k_is)
    (case y1_InvalidPaper => k_is)
    (case y2_InvalidPaper => k_is)
    (case y3_InvalidPaper => k_is)
    (case y4_InvalidPaper => k_exc)
    (case y5_InvalidPaper => k_is)
    (case y6_InvalidPaper => k_is)
    (case y7_InvalidPaper_InvalidPaper => first | rfl | k_is)
