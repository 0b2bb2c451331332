import PyProof.Rows.All
import Wide.All
import OpenK.AllK
import Wide.FinOn
import HandS.ForMost
import HandS.Walk
import KE.KDictKeyed
import HandS.IsInst
import HandS.TupAny
import HandS.Style
import HandS.Wide
import KE.GoesEnum
import KE.GoesEnumKw
import KE.GoesZip
import HandS.TupLen
import KE.KDictDisplayH
import HandS.Conv
import HandS.DictComp
import HandS.TupLe
import HandS.SortKw
import HandS.SortRule
import KE.KDictSum
import HandS.Iter
import PyProof.NeKinds
import KE.GoesMore
import HandS.Dict
import KE.KDictPairs
import KE.KDictWalk
import PyProof.EqAt
import PyProof.EqKinds
import PyProof.TupleCall
import HandS.ForExc
import HandS.TryOnly
import HandS.ExcOwn
import HandS.Exc
import PySem.Challenge.RW_breakrows_k60_whole_prices_and_counts
set_option Elab.async false
set_option linter.all false
set_option maxRecDepth 100000
set_option maxHeartbeats 2000000
/-! Pd1: plain data D, what stands for it in an abstract heap (Rep), the world W of a walk (S: addresses that data avoid, T: the lists that draws change), extension of heaps. -/
namespace PD
open PySem L2

/-- plain data -/
inductive D where
  | non | bl (b : Bool) | int (i : Int) | str (x : Str)
  | tup (ds : List D) | lst (ds : List D) | dct (kvs : List (NestedKey × D))
  | ins (C : Addr) (fs : List (Str × D))
  | src
  | dki (kvs : List (Int × Int))
  | ktp (ds : List D)
  | flst (ds : List D)
  | adr (a : Addr)

structure MW where
  P : Program
  w : World
structure Wd where
  S : Addr → Prop
  T : Addr → Prop
def SrcAt (H : Hp) (a : Addr) : Prop := ∃ x y n : Int, H a = some (.lst [.int x, .int y, .int n])
structure Wd.ok (W : Wd) (H : Hp) : Prop where
  tr : ∀ a, W.S a → ∃ o, H a = some o
  sub : ∀ a, W.T a → W.S a
  src : ∀ a, W.T a → SrcAt H a
/-- all that is tracked stays, but the lists that draws change -/
structure Ext (W : Wd) (H H' : Hp) : Prop where
  keep : ∀ a o, ¬ W.T a → H a = some o → H' a = some o
  src : ∀ a, W.T a → SrcAt H a → SrcAt H' a
theorem Ext.refl (W : Wd) (H : Hp) : Ext W H H := ⟨fun _ _ _ h => h, fun _ _ h => h⟩
theorem Ext.trans {W : Wd} {H H1 H2 : Hp} (a : Ext W H H1) (b : Ext W H1 H2) : Ext W H H2 :=
  ⟨fun x o n h => b.keep x o n (a.keep x o n h), fun x t h => b.src x t (a.src x t h)⟩
theorem Ext.same {W : Wd} {H H' : Hp} (h : Same H H') : Ext W H H' := ⟨fun a o _ e => h a o e, fun a _ ⟨x, y, n, e⟩ => ⟨x, y, n, h a _ e⟩⟩
theorem Ext.new {W : Wd} {H : Hp} {p : Addr} {o : HO} (h : H p = none) : Ext W H (upd H p o) := .same fun a u e => by rw [upd_ne (ne_of_none e h)]; exact e
/-- an object that H does not know may change -/
theorem Ext.mut {W : Wd} {H H' : Hp} {p : Addr} {o : HO} (e : Ext W H H') (h : H p = none) : Ext W H (upd H' p o) :=
  ⟨fun a u n ha => by rw [upd_ne (ne_of_none ha h)]; exact e.keep a u n ha, fun a t s => by
    obtain ⟨x, y, n, ha⟩ := id s
    obtain ⟨x, y, n, q⟩ := e.src a t s
    exact ⟨x, y, n, by rw [upd_ne (ne_of_none ha h)]; exact q⟩⟩
theorem Ext.tr {W : Wd} {H H' : Hp} (e : Ext W H H') (ok : W.ok H) {a : Addr} (h : ∃ o, H a = some o) : ∃ o, H' a = some o := by
  obtain ⟨o, h⟩ := h
  by_cases t : W.T a
  · obtain ⟨x, y, n, q⟩ := e.src a t (ok.src a t)
    exact ⟨_, q⟩
  · exact ⟨o, e.keep a o t h⟩
theorem Ext.free {W : Wd} {H H' : Hp} (e : Ext W H H') (ok : W.ok H) {a : Addr} (h : H' a = none) : H a = none := by
  cases q : H a with
  | none => rfl
  | some o =>
    obtain ⟨o', q'⟩ := e.tr ok ⟨o, q⟩
    rw [h] at q'; cases q'
theorem Wd.ok.ext {W : Wd} {H H' : Hp} (ok : W.ok H) (e : Ext W H H') : W.ok H' :=
  ⟨fun a s => e.tr ok (ok.tr a s), ok.sub, fun a t => e.src a t (ok.src a t)⟩
theorem Wd.ok.nS {W : Wd} {H : Hp} (ok : W.ok H) {p : Addr} (h : H p = none) : ¬ W.S p := fun s => by
  obtain ⟨o, e⟩ := ok.tr p s
  rw [h] at e; cases e
/-- more addresses to avoid -/
def Wd.adds (W : Wd) (O : Addr → Prop) : Wd := ⟨fun a => W.S a ∨ O a, W.T⟩
abbrev Wd.add (W : Wd) (p : Addr) : Wd := W.adds fun a => a = p
theorem Ext.adds {W : Wd} {O : Addr → Prop} {H H' : Hp} : Ext (W.adds O) H H' ↔ Ext W H H' := ⟨fun e => ⟨e.keep, e.src⟩, fun e => ⟨e.keep, e.src⟩⟩
theorem Wd.ok.adds {W : Wd} {O : Addr → Prop} {H : Hp} (ok : W.ok H) (h : ∀ a, O a → ∃ o, H a = some o) : (W.adds O).ok H :=
  ⟨fun a s => s.elim (ok.tr a) (h a), fun a t => .inl (ok.sub a t), ok.src⟩

/-! ### dicts with nested keys: the object itself is told -/
def dO (a : Addr) (o : Obj) : HO := .ext fun h => h.get? a = some o
/-- the entries of a dict object -/
def Ents (M : MW) (o : Obj) (es : List (NestedKey × Addr × Value)) : Prop :=
  o.ExactDict ∧ (∃ raw ep, o.data = .dict raw ep ∧ raw.toList = es.map (entryOfKey (nestedKind M.P M.w))) ∧ (es.map (·.1)).Nodup ∧ es.length ≤ sizeLine ∧ ∀ e ∈ es, e.1.depth ≤ 8

/-- a dict of ints by ints, told by its object -/
def IEnts (M : MW) (a : Addr) (o : Obj) (kvs : List (Int × Int)) : Prop :=
  o.ExactDict ∧ kvs.length ≤ sizeLine ∧ ∀ h : Heap, h.get? a = some o → ∃ vs : List (Int × Value), Paired (fun p q => p.1 = q.1 ∧ RelV (.int p.2) q.2) kvs vs ∧ h.DictOf (intKind M.P M.w) a vs
/-- a tuple without attributes of its own, told by its object -/
def KTup (H : Hp) (a : Addr) (vs : List V) : Prop := ∃ o : Obj, o.dict = none ∧ H a = some (.frz o (.tup vs))
theorem KTup.sq {K : PySem.W.Frag} {H : Hp} {a : Addr} {vs : List V} (h : KTup H a vs) : SqT K H a vs := .inl (.inr (let ⟨o, _, e⟩ := h; ⟨o, e⟩))
mutual
/-- a key's tuple in the abstract heap -/
def KRep (W : Wd) (H : Hp) : NestedKey → V → Prop
  | .none, v => v = .non
  | .num i, v => v = .int i
  | .text x, v => v = .str x
  | .tup ks, v => ∃ a vs, v = .ref a ∧ ¬ W.S a ∧ KTup H a vs ∧ KRepL W H ks vs
def KRepL (W : Wd) (H : Hp) : List NestedKey → List V → Prop
  | [], vs => vs = []
  | k :: ks, vs => ∃ v r, vs = v :: r ∧ KRep W H k v ∧ KRepL W H ks r
end

/-- the attributes of a table -/
def tabFields : List Str := ["owned", "days", "backs", "lows", "steps", "counts"]
/-- no other attribute is there (so that no method is hidden) -/
def OnlyTab (gs : List (Str × V)) : Prop := ∀ f, f ∉ tabFields → gs.lookup f = none
mutual
/-- v stands for d -/
def Rep (M : MW) (W : Wd) (H : Hp) : D → V → Prop
  | .non, v => v = .non
  | .bl b, v => v = .bl b
  | .int i, v => v = .int i
  | .str x, v => v = .str x
  | .tup ds, v => ∃ a vs, v = .ref a ∧ ¬ W.S a ∧ H a = some (.tup vs) ∧ RepL M W H ds vs
  | .lst ds, v => ∃ a vs, v = .ref a ∧ ¬ W.S a ∧ H a = some (.lst vs) ∧ RepL M W H ds vs
  | .dct kvs, v => ∃ a o es, v = .ref a ∧ ¬ W.S a ∧ H a = some (dO a o) ∧ (a == sysModules) = false ∧ Ents M o es ∧ RepKV M W H kvs es
  | .ins C fs, v => ∃ a dx gs, v = .ref a ∧ ¬ W.S a ∧ H a = some (.ins C dx gs) ∧ OnlyTab gs ∧ RepF M W H fs gs
  | .src, v => ∃ a, v = .ref a ∧ W.T a
  | .dki kvs, v => ∃ a o, v = .ref a ∧ ¬ W.S a ∧ H a = some (dO a o) ∧ (a == sysModules) = false ∧ IEnts M a o kvs
  | .ktp ds, v => ∃ a vs, v = .ref a ∧ ¬ W.S a ∧ KTup H a vs ∧ RepL M W H ds vs
  | .flst ds, v => ∃ a o vs, v = .ref a ∧ ¬ W.S a ∧ H a = some (.frz o (.lst vs)) ∧ RepL M W H ds vs
  | .adr a, v => v = .ref a
def RepL (M : MW) (W : Wd) (H : Hp) : List D → List V → Prop
  | [], vs => vs = []
  | d :: ds, vs => ∃ v r, vs = v :: r ∧ Rep M W H d v ∧ RepL M W H ds r
def RepKV (M : MW) (W : Wd) (H : Hp) : List (NestedKey × D) → List (NestedKey × Addr × Value) → Prop
  | [], es => es = []
  | (k, d) :: r, es => ∃ a u v es', es = (k, a, u) :: es' ∧ KRep W H k (.ref a) ∧ RelV v u ∧ Rep M W H d v ∧ RepKV M W H r es'
def RepF (M : MW) (W : Wd) (H : Hp) : List (Str × D) → List (Str × V) → Prop
  | [], _ => True
  | (f, d) :: r, gs => (∃ v, gs.lookup f = some v ∧ Rep M W H d v) ∧ RepF M W H r gs
end

/-! ### what carries over -/
/-- every address that data of W may stand on is kept from H to H', and W' avoids no more than W -/
structure Car (W W' : Wd) (H H' : Hp) : Prop where
  keep : ∀ a o, ¬ W.S a → H a = some o → H' a = some o ∧ ¬ W'.S a
  src : ∀ a, W.T a → W'.T a
section
variable {M : MW} {W W' : Wd} {H H' : Hp}
mutual
theorem KRep.car (c : Car W W' H H') : ∀ (k : NestedKey) (v : V), KRep W H k v → KRep W' H' k v
  | .none, v, h => h
  | .num i, v, h => h
  | .text x, v, h => h
  | .tup ks, v, h => by
    obtain ⟨a, vs, e, n, ⟨o, od, h1⟩, h2⟩ := h
    obtain ⟨k1, k2⟩ := c.keep a _ n h1
    exact ⟨a, vs, e, k2, ⟨o, od, k1⟩, KRepL.car c ks vs h2⟩
theorem KRepL.car (c : Car W W' H H') : ∀ (ks : List NestedKey) (vs : List V), KRepL W H ks vs → KRepL W' H' ks vs
  | [], vs, h => h
  | k :: ks, vs, h => by
    obtain ⟨v, r, e, h1, h2⟩ := h
    exact ⟨v, r, e, KRep.car c k v h1, KRepL.car c ks r h2⟩
end
mutual
theorem Rep.car (c : Car W W' H H') : ∀ (d : D) (v : V), Rep M W H d v → Rep M W' H' d v
  | .non, v, h => h
  | .bl b, v, h => h
  | .int i, v, h => h
  | .str x, v, h => h
  | .tup ds, v, h => by
    obtain ⟨a, vs, e, n, h1, h2⟩ := h
    obtain ⟨k1, k2⟩ := c.keep a _ n h1
    exact ⟨a, vs, e, k2, k1, RepL.car c ds vs h2⟩
  | .lst ds, v, h => by
    obtain ⟨a, vs, e, n, h1, h2⟩ := h
    obtain ⟨k1, k2⟩ := c.keep a _ n h1
    exact ⟨a, vs, e, k2, k1, RepL.car c ds vs h2⟩
  | .dct kvs, v, h => by
    obtain ⟨a, o, es, e, n, h1, h0, h3, h2⟩ := h
    obtain ⟨k1, k2⟩ := c.keep a _ n h1
    exact ⟨a, o, es, e, k2, k1, h0, h3, RepKV.car c kvs es h2⟩
  | .ins C fs, v, h => by
    obtain ⟨a, dx, gs, e, n, h1, h0, h2⟩ := h
    obtain ⟨k1, k2⟩ := c.keep a _ n h1
    exact ⟨a, dx, gs, e, k2, k1, h0, RepF.car c fs gs h2⟩
  | .src, v, h => by
    obtain ⟨a, e, t⟩ := h
    exact ⟨a, e, c.src a t⟩
  | .dki kvs, v, h => by
    obtain ⟨a, o, e, n, h1, h0, h3⟩ := h
    obtain ⟨k1, k2⟩ := c.keep a _ n h1
    exact ⟨a, o, e, k2, k1, h0, h3⟩
  | .ktp ds, v, h => by
    obtain ⟨a, vs, e, n, ⟨o, od, h1⟩, h2⟩ := h
    obtain ⟨k1, k2⟩ := c.keep a _ n h1
    exact ⟨a, vs, e, k2, ⟨o, od, k1⟩, RepL.car c ds vs h2⟩
  | .flst ds, v, h => by
    obtain ⟨a, o, vs, e, n, h1, h2⟩ := h
    obtain ⟨k1, k2⟩ := c.keep a _ n h1
    exact ⟨a, o, vs, e, k2, k1, RepL.car c ds vs h2⟩
  | .adr a, v, h => h
theorem RepL.car (c : Car W W' H H') : ∀ (ds : List D) (vs : List V), RepL M W H ds vs → RepL M W' H' ds vs
  | [], vs, h => h
  | d :: ds, vs, h => by
    obtain ⟨v, r, e, h1, h2⟩ := h
    exact ⟨v, r, e, Rep.car c d v h1, RepL.car c ds r h2⟩
theorem RepKV.car (c : Car W W' H H') : ∀ (kvs : List (NestedKey × D)) (es : List (NestedKey × Addr × Value)), RepKV M W H kvs es → RepKV M W' H' kvs es
  | [], es, h => h
  | (k, d) :: r, es, h => by
    obtain ⟨a, u, v, es', e, h1, h2, h3, h4⟩ := h
    exact ⟨a, u, v, es', e, KRep.car c k _ h1, h2, Rep.car c d v h3, RepKV.car c r es' h4⟩
theorem RepF.car (c : Car W W' H H') : ∀ (fs : List (Str × D)) (gs : List (Str × V)), RepF M W H fs gs → RepF M W' H' fs gs
  | [], _, _ => trivial
  | (f, d) :: r, gs, h => by
    obtain ⟨⟨v, e, h1⟩, h2⟩ := h
    exact ⟨⟨v, e, Rep.car c d v h1⟩, RepF.car c r gs h2⟩
end
theorem Car.ext (ok : W.ok H) (e : Ext W H H') : Car W W H H' := ⟨fun a o n h => ⟨e.keep a o (fun t => n (ok.sub a t)) h, n⟩, fun _ t => t⟩
theorem Car.weak (s : ∀ a, W'.S a → W.S a) (t : ∀ a, W.T a → W'.T a) : Car W W' H H := ⟨fun a o n h => ⟨h, fun q => n (s a q)⟩, t⟩
theorem Car.upd {p : Addr} {o : HO} (s : W.S p) : Car W W H (upd H p o) := ⟨fun a u n h => ⟨by rw [upd_ne (fun (e : a = p) => n (by rw [e]; exact s))]; exact h, n⟩, fun _ t => t⟩
theorem Car.new {p : Addr} (h : H p = none) : Car W (W.add p) H H := ⟨fun a u n e => ⟨e, fun q => q.elim n fun z => ne_of_none e h z⟩, fun _ t => t⟩
theorem Car.newS {O : Addr → Prop} (h : ∀ p, O p → H p = none) : Car W (W.adds O) H H := ⟨fun a u n e => ⟨e, fun q => q.elim n fun z => ne_of_none e (h a z) rfl⟩, fun _ t => t⟩
theorem Car.trans {W'' : Wd} {H'' : Hp} (a : Car W W' H H') (b : Car W' W'' H' H'') : Car W W'' H H'' := ⟨fun x o n h => let ⟨h1, n1⟩ := a.keep x o n h; b.keep x o n1 h1, fun x t => b.src x (a.src x t)⟩
theorem Car.back {O : Addr → Prop} : Car (W.adds O) W H H := Car.weak (fun _ s => .inl s) fun _ t => t
end
section
variable {M : MW} {W : Wd} {H H' : Hp}
theorem Rep.ext {d : D} {v : V} (h : Rep M W H d v) (ok : W.ok H) (e : Ext W H H') : Rep M W H' d v := Rep.car (.ext ok e) d v h
theorem RepL.ext {ds : List D} {vs : List V} (h : RepL M W H ds vs) (ok : W.ok H) (e : Ext W H H') : RepL M W H' ds vs := RepL.car (.ext ok e) ds vs h
theorem RepKV.ext {ds : List (NestedKey × D)} {vs : List (NestedKey × Addr × Value)} (h : RepKV M W H ds vs) (ok : W.ok H) (e : Ext W H H') : RepKV M W H' ds vs := RepKV.car (.ext ok e) ds vs h
theorem KRep.ext {k : NestedKey} {v : V} (h : KRep W H k v) (ok : W.ok H) (e : Ext W H H') : KRep W H' k v := KRep.car (.ext ok e) k v h

/-! ### lists of data -/
theorem RepL.length : ∀ {ds : List D} {vs : List V}, RepL M W H ds vs → vs.length = ds.length
  | [], vs, h => by rw [show vs = [] from h] <;> rfl
  | d :: ds, vs, h => by
    obtain ⟨v, r, e, _, h2⟩ := h
    subst e
    exact congrArg (· + 1) (RepL.length h2)
theorem RepL.get : ∀ {ds : List D} {vs : List V} {i : Nat} {d : D}, RepL M W H ds vs → ds[i]? = some d → ∃ v, vs[i]? = some v ∧ Rep M W H d v
  | [], vs, i, d, h, e => by simp at e
  | d' :: ds, vs, 0, d, h, e => by
    obtain ⟨v, r, e', h1, _⟩ := h
    subst e'
    have e : d' = d := by simpa using e
    subst e
    exact ⟨v, rfl, h1⟩
  | d' :: ds, vs, i + 1, d, h, e => by
    obtain ⟨v, r, e', _, h2⟩ := h
    subst e'
    obtain ⟨u, h3, h4⟩ := RepL.get (i := i) (d := d) h2 (by simpa using e)
    exact ⟨u, by simpa using h3, h4⟩
theorem RepL.getV : ∀ {ds : List D} {vs : List V} {i : Nat} {v : V}, RepL M W H ds vs → vs[i]? = some v → ∃ d, ds[i]? = some d ∧ Rep M W H d v := fun {ds vs i v} h e => by
  have hl := h.length
  have hi : i < vs.length := (List.getElem?_eq_some_iff.mp e).1
  obtain ⟨u, h1, h2⟩ := h.get (i := i) (d := ds[i]'(by omega)) (by simp [show i < ds.length by omega])
  rw [e] at h1; cases h1
  exact ⟨_, by simp [show i < ds.length by omega], h2⟩
theorem RepL.append : ∀ {ds es : List D} {vs us : List V}, RepL M W H ds vs → RepL M W H es us → RepL M W H (ds ++ es) (vs ++ us)
  | [], es, vs, us, h, g => by rw [show vs = [] from h]; exact g
  | d :: ds, es, vs, us, h, g => by
    obtain ⟨v, r, e, h1, h2⟩ := h
    subst e
    exact ⟨v, r ++ us, rfl, h1, RepL.append h2 g⟩
theorem RepL.one {d : D} {v : V} (h : Rep M W H d v) : RepL M W H [d] [v] := ⟨v, [], rfl, h, rfl⟩
theorem RepL.take : ∀ (n : Nat) {ds : List D} {vs : List V}, RepL M W H ds vs → RepL M W H (ds.take n) (vs.take n)
  | 0, ds, vs, _ => by simp [RepL]
  | n + 1, [], vs, h => by rw [show vs = [] from h]; simp [RepL]
  | n + 1, d :: ds, vs, h => by
    obtain ⟨v, r, e, h1, h2⟩ := h
    subst e
    exact ⟨v, r.take n, rfl, h1, RepL.take n h2⟩
theorem RepL.drop : ∀ (n : Nat) {ds : List D} {vs : List V}, RepL M W H ds vs → RepL M W H (ds.drop n) (vs.drop n)
  | 0, ds, vs, h => h
  | n + 1, [], vs, h => by rw [show vs = [] from h]; simp [RepL]
  | n + 1, d :: ds, vs, h => by
    obtain ⟨v, r, e, h1, h2⟩ := h
    subst e
    exact RepL.drop n h2
theorem RepL.reverse : ∀ {ds : List D} {vs : List V}, RepL M W H ds vs → RepL M W H ds.reverse vs.reverse
  | [], vs, h => by rw [show vs = [] from h]; exact rfl
  | d :: ds, vs, h => by
    obtain ⟨v, r, e, h1, h2⟩ := h
    subst e
    rw [List.reverse_cons, List.reverse_cons]
    exact (RepL.reverse h2).append (.one h1)
theorem RepL.ints : ∀ {ns : List Int} {vs : List V}, RepL M W H (ns.map D.int) vs → vs = ns.map V.int
  | [], vs, h => h
  | n :: ns, vs, h => by
    obtain ⟨v, r, e, h1, h2⟩ := h
    subst e
    rw [show v = V.int n from h1, RepL.ints h2] <;> rfl
theorem RepL.of_ints : ∀ ns : List Int, RepL M W H (ns.map D.int) (ns.map V.int)
  | [] => rfl
  | n :: ns => ⟨_, _, rfl, rfl, RepL.of_ints ns⟩
theorem RepL.bls : ∀ {ns : List Bool} {vs : List V}, RepL M W H (ns.map D.bl) vs → vs = ns.map V.bl
  | [], vs, h => h
  | n :: ns, vs, h => by
    obtain ⟨v, r, e, h1, h2⟩ := h
    subst e
    rw [show v = V.bl n from h1, RepL.bls h2] <;> rfl
theorem RepL.rep {ds : List D} {vs : List V} (h : RepL M W H ds vs) : ∀ n : Nat, RepL M W H (List.replicate n ds).flatten (List.replicate n vs).flatten
  | 0 => rfl
  | n + 1 => by
    rw [List.replicate_succ, List.replicate_succ, List.flatten_cons, List.flatten_cons]
    exact h.append (RepL.rep h n)
theorem RepL.set {d : D} {v : V} (hd : Rep M W H d v) : ∀ (i : Nat) {ds : List D} {vs : List V}, RepL M W H ds vs → RepL M W H (ds.set i d) (vs.set i v)
  | i, [], vs, h => by rw [show vs = [] from h]; exact rfl
  | 0, d' :: ds, vs, h => by
    obtain ⟨u, r, e, h1, h2⟩ := h
    subst e
    exact ⟨v, r, rfl, hd, h2⟩
  | i + 1, d' :: ds, vs, h => by
    obtain ⟨u, r, e, h1, h2⟩ := h
    subst e
    exact ⟨u, r.set i v, rfl, h1, RepL.set hd i h2⟩
theorem RepL.dropLast {ds : List D} {vs : List V} (h : RepL M W H ds vs) : RepL M W H ds.dropLast vs.dropLast := by
  rw [List.dropLast_eq_take, List.dropLast_eq_take, h.length]
  exact h.take _
/-! keys as data -/
mutual
def kd : NestedKey → D
  | .none => .non
  | .num i => .int i
  | .text x => .str x
  | .tup ks => .ktp (kds ks)
def kds : List NestedKey → List D
  | [] => []
  | k :: ks => kd k :: kds ks
end
mutual
theorem krep_kd : ∀ (k : NestedKey) (v : V), KRep W H k v ↔ Rep M W H (kd k) v
  | .none, v => Iff.rfl
  | .num i, v => Iff.rfl
  | .text x, v => Iff.rfl
  | .tup ks, v => ⟨fun ⟨a, vs, e, n, h1, h2⟩ => ⟨a, vs, e, n, h1, (krepL_kd ks vs).mp h2⟩, fun ⟨a, vs, e, n, h1, h2⟩ => ⟨a, vs, e, n, h1, (krepL_kd ks vs).mpr h2⟩⟩
theorem krepL_kd : ∀ (ks : List NestedKey) (vs : List V), KRepL W H ks vs ↔ RepL M W H (kds ks) vs
  | [], vs => Iff.rfl
  | k :: ks, vs => ⟨fun ⟨v, r, e, h1, h2⟩ => ⟨v, r, e, (krep_kd k v).mp h1, (krepL_kd ks r).mp h2⟩, fun ⟨v, r, e, h1, h2⟩ => ⟨v, r, e, (krep_kd k v).mpr h1, (krepL_kd ks r).mpr h2⟩⟩
end
theorem kds_map : ∀ ks : List NestedKey, kds ks = ks.map kd
  | [] => rfl
  | k :: ks => by rw [kds, kds_map ks] <;> rfl
theorem KRepL.length : ∀ {ks : List NestedKey} {vs : List V}, KRepL W H ks vs → vs.length = ks.length
  | [], vs, h => by rw [show vs = [] from h] <;> rfl
  | k :: ks, vs, h => by
    obtain ⟨v, r, e, _, h2⟩ := h
    subst e
    exact congrArg (· + 1) (KRepL.length h2)
/-- two data that one value stands for -/
theorem RepKV.length : ∀ {kvs : List (NestedKey × D)} {es : List (NestedKey × Addr × Value)}, RepKV M W H kvs es → es.length = kvs.length
  | [], es, h => by rw [show es = [] from h] <;> rfl
  | (k, d) :: r, es, h => by
    obtain ⟨a, u, v, es', e, _, _, _, h4⟩ := h
    subst e
    exact congrArg (· + 1) (RepKV.length h4)
theorem RepKV.keys : ∀ {kvs : List (NestedKey × D)} {es : List (NestedKey × Addr × Value)}, RepKV M W H kvs es → es.map (·.1) = kvs.map (·.1)
  | [], es, h => by rw [show es = [] from h] <;> rfl
  | (k, d) :: r, es, h => by
    obtain ⟨a, u, v, es', e, _, _, _, h4⟩ := h
    subst e
    show k :: es'.map (·.1) = k :: r.map (·.1)
    rw [RepKV.keys h4]
theorem RepKV.get : ∀ {kvs : List (NestedKey × D)} {es : List (NestedKey × Addr × Value)} {i : Nat} {k : NestedKey} {d : D}, RepKV M W H kvs es → kvs[i]? = some (k, d) → ∃ a u v, es[i]? = some (k, a, u) ∧ KRep W H k (.ref a) ∧ RelV v u ∧ Rep M W H d v
  | [], es, i, k, d, h, e => by simp at e
  | (k', d') :: r, es, 0, k, d, h, e => by
    obtain ⟨a, u, v, es', e', h1, h2, h3, h4⟩ := h
    subst e'
    have e : (k', d') = (k, d) := by simpa using e
    cases e
    exact ⟨a, u, v, rfl, h1, h2, h3⟩
  | (k', d') :: r, es, i + 1, k, d, h, e => by
    obtain ⟨a, u, v, es', e', _, _, _, h4⟩ := h
    subst e'
    obtain ⟨a', u', v', g1, g2, g3, g4⟩ := RepKV.get (i := i) (k := k) (d := d) h4 (by simpa using e)
    exact ⟨a', u', v', by simpa using g1, g2, g3, g4⟩
theorem RepF.get : ∀ {fs : List (Str × D)} {gs : List (Str × V)} {f : Str} {d : D}, RepF M W H fs gs → fs.lookup f = some d → ∃ v, gs.lookup f = some v ∧ Rep M W H d v
  | [], gs, f, d, _, e => by simp at e
  | (g, d') :: r, gs, f, d, h, e => by
    obtain ⟨⟨v, e1, h1⟩, h2⟩ := h
    rw [List.lookup_cons] at e
    cases q : f == g with
    | true =>
      rw [q] at e
      have e : d' = d := by simpa using e
      have q : f = g := by simpa using q
      subst e; subst q
      exact ⟨v, e1, h1⟩
    | false =>
      rw [q] at e
      exact RepF.get h2 e
end
end PD

set_option Elab.async false
set_option linter.all false
set_option maxRecDepth 100000
set_option maxHeartbeats 2000000
/-! Pd2: canonical readings: an expression evaluates to a datum (tN, tD), a test to a bool (tT), arguments to data (tAN), a new list (tF); the rules for expressions. -/
namespace PD
open PySem L2

abbrev pw (X : Cx) : MW := ⟨X.prog, X.w⟩
def Slots (M : MW) (W : Wd) (H : Hp) (r : List (Option D)) (σ : St) : Prop :=
  r.length = σ.length ∧ ∀ (i : Nat) (d : D), r[i]? = some (some d) → ∃ x, σ[i]? = some (some x) ∧ Rep M W H d x
theorem Slots.ext {M : MW} {W : Wd} {H H' : Hp} {r : List (Option D)} {σ : St} (h : Slots M W H r σ) (ok : W.ok H) (e : Ext W H H') : Slots M W H' r σ :=
  ⟨h.1, fun i d q => let ⟨x, h1, h2⟩ := h.2 i d q; ⟨x, h1, h2.ext ok e⟩⟩
theorem Slots.car {M : MW} {W W' : Wd} {H H' : Hp} {r : List (Option D)} {σ : St} (h : Slots M W H r σ) (c : Car W W' H H') : Slots M W' H' r σ :=
  ⟨h.1, fun i d q => let ⟨x, h1, h2⟩ := h.2 i d q; ⟨x, h1, Rep.car c d x h2⟩⟩
/-- the canonical readings -/
def tN (M : MW) (r : List (Option D)) (K : D → Prop) : TE := fun σ H Q => ∃ W, Slots M W H r σ ∧ W.ok H ∧ ∀ v H2 d, K d → Ext W H H2 → Rep M W H2 d v → Q v H2
abbrev tD (M : MW) (r : List (Option D)) (d : D) : TE := tN M r (fun x => x = d)
def tT (M : MW) (r : List (Option D)) (b : Bool) : TT := fun σ H Q => ∃ W, Slots M W H r σ ∧ W.ok H ∧ ∀ H2, Ext W H H2 → Q b H2
def tAN (M : MW) (r : List (Option D)) (K : List D → Prop) : TA := fun σ H Q => ∃ W, Slots M W H r σ ∧ W.ok H ∧ ∀ vs H2 ds, K ds → Ext W H H2 → RepL M W H2 ds vs → Q vs H2
abbrev tAD (M : MW) (r : List (Option D)) (ds : List D) : TA := tAN M r (fun x => x = ds)
/-- a new list -/
def tF (M : MW) (r : List (Option D)) (K : List D → Prop) : TE := fun σ H Q => ∃ W, Slots M W H r σ ∧ W.ok H ∧
  ∀ p vs H2 ds, K ds → H p = none → Ext W H H2 → H2 p = some (.lst vs) → RepL M (W.add p) H2 ds vs → Q (.ref p) H2
section
variable {X : Cx}
theorem _root_.L2.PE.wk {e : Expr} {t t' : TE} (h : PE X e t) (w : ∀ σ H Q, t' σ H Q → t σ H Q) : PE X e t' := ⟨fun pins s σ H Q I q => h.run pins s σ H Q I (w σ H Q q)⟩
theorem _root_.L2.PT.wk {e : Expr} {t t' : TT} (h : PT X e t) (w : ∀ σ H Q, t' σ H Q → t σ H Q) : PT X e t' := ⟨fun pins s σ H Q I q => h.run pins s σ H Q I (w σ H Q q)⟩
theorem _root_.L2.PW.wk {e : Expr} {t t' : TT} (h : PW X e t) (w : ∀ σ H Q, t' σ H Q → t σ H Q) : PW X e t' := ⟨fun wh pins s σ H Q I q => h.run wh pins s σ H Q I (w σ H Q q)⟩
theorem _root_.L2.PA.wk {e : List Expr} {t t' : TA} (h : PA X e t) (w : ∀ σ H Q, t' σ H Q → t σ H Q) : PA X e t' := ⟨fun pos pins s σ H Q I q => h.run pos pins s σ H Q I (w σ H Q q)⟩
end
section
variable {M : MW} {r : List (Option D)} {K K' : D → Prop}
theorem tN.mono {σ : St} {H : Hp} {Q : VK} (k : ∀ d, K' d → K d) (h : tN M r K σ H Q) : tN M r K' σ H Q :=
  let ⟨W, a, b, c⟩ := h; ⟨W, a, b, fun v H2 d kd => c v H2 d (k d kd)⟩
end
section
variable {X : Cx} {M : MW} {r : List (Option D)} {K Ka Kb : D → Prop} {a b e : Expr} {pos : Pos} {es : List Expr} {d da db : D}
/-- wider: what is known of the result is less -/
theorem ed_mono (h : PE X e (tN M r K)) (k : ∀ d, K d → Ka d) : PE X e (tN M r Ka) := h.wk fun _ _ _ q => tN.mono k q
theorem ed_is (h : PE X e (tD M r d)) (k : d = da) : PE X e (tD M r da) := k ▸ h

/-! ### names, constants -/
theorem dv (i : Nat) {x : Str} (h : r[i]? = some (some d) := by rfl) (hN : X.N[i]? = some x := by rfl) (hv : Vis X.env.scope x := by first | exact Or.inl rfl | exact Or.inr (Or.inl rfl) | exact Or.inr (Or.inr rfl)) (hd : (x == ("__debug__" : Str)) = false := by decide)
    (hcd : (x == ("__classdict__" : Str)) = false := by decide) : PE X (.Name x pos) (tD M r d) := (pe_var hN hv hd hcd).wk fun σ H Q ⟨W, hs, ok, q⟩ =>
  let ⟨x, h1, h2⟩ := hs.2 i d h; ⟨x, h1, q x H d rfl (.refl _ _) h2⟩
theorem tC_D {M : MW} {v : V} (h : ∀ W H, Rep M W H d v) : ∀ σ H Q, tD M r d σ H Q → tC v σ H Q := fun σ H Q ⟨W, hs, ok, q⟩ => q v H d rfl (.refl _ _) (h W H)
theorem ed_int {i : Int} {j pos} : PE X (.Constant (.int i) j pos) (tD M r (.int i)) := pe_int.wk (tC_D fun _ _ => rfl)
theorem ed_bl {b : Bool} {j pos} : PE X (.Constant (.bool b) j pos) (tD M r (.bl b)) := pe_bl.wk (tC_D fun _ _ => rfl)
theorem ed_non {j pos} : PE X (.Constant .none j pos) (tD M r .non) := pe_non.wk (tC_D fun _ _ => rfl)
/-- a module's constant that is an int -/
theorem ed_globI {x : Str} {i : Int} {t : Tok} (hm : X.mg x = some (.int i t)) (hg : Gl X x := by rfl) (hd : (x == ("__debug__" : Str)) = false := by decide) : PE X (.Name x pos) (tD M r (.int i)) :=
  (pe_glob (v := .int i) hg hm ⟨_, rfl⟩ hd).wk (tC_D fun _ _ => rfl)

/-! ### operators -/
def Op2 (M : MW) (rr : R2) (dx dy : D) (K : D → Prop) : Prop := ∀ (W : Wd) (H : Hp) (x y : V) (Q : VK), W.ok H → Rep M W H dx x → Rep M W H dy y → (∀ z H2 d, K d → Ext W H H2 → Rep M W H2 d z → Q z H2) → rr x y H Q
theorem tOp_N {rr : R2} (h : ∀ dx dy, Ka dx → Kb dy → Op2 M rr dx dy K) : ∀ σ H Q, tN M r K σ H Q → tOp rr (tN M r Ka) (tN M r Kb) σ H Q := fun σ H Q ⟨W, hs, ok, q⟩ =>
  ⟨W, hs, ok, fun x H1 dx kx e1 rx => ⟨W, hs.ext ok e1, ok.ext e1, fun y H2 dy ky e2 ry =>
    h dx dy kx ky W H2 x y Q ((ok.ext e1).ext e2) (rx.ext (ok.ext e1) e2) ry fun z H3 d kd e3 rz => q z H3 d kd ((e1.trans e2).trans e3) rz⟩⟩
theorem tOp_D {rr : R2} (h : Op2 M rr da db K) : ∀ σ H Q, tN M r K σ H Q → tOp rr (tD M r da) (tD M r db) σ H Q := tOp_N fun dx dy ex ey => by rw [ex, ey]; exact h
theorem op2_I0 {g : Int → Int → V} {dd : D} {i j : Int} (h : ∀ W H, Rep M W H dd (g i j)) : Op2 M (rI0 g) (.int i) (.int j) (fun x => x = dd) := fun W H x y Q ok rx ry q =>
  ⟨i, j, rx, ry, q _ H _ rfl (.refl _ _) (h W H)⟩
theorem op2_I {C : Int → Int → Prop} {g : Int → Int → V} {dd : D} {i j : Int} (hc : C i j) (h : ∀ W H, Rep M W H dd (g i j)) : Op2 M (rI C g) (.int i) (.int j) (fun x => x = dd) := fun W H x y Q ok rx ry q =>
  ⟨i, j, rx, ry, hc, q _ H _ rfl (.refl _ _) (h W H)⟩
theorem ed_opN {op : Operator} {rr : R2} (ho : OpR X (binaryOp op) rr) (ha : PE X a (tN M r Ka)) (hb : PE X b (tN M r Kb)) (h : ∀ dx dy, Ka dx → Kb dy → Op2 M rr dx dy K) : PE X (.BinOp a op b pos) (tN M r K) :=
  (pe_op ho ha hb).wk (tOp_N h)
theorem ed_op {op : Operator} {rr : R2} (ho : OpR X (binaryOp op) rr) (ha : PE X a (tD M r da)) (hb : PE X b (tD M r db)) (h : Op2 M rr da db K) : PE X (.BinOp a op b pos) (tN M r K) := (pe_op ho ha hb).wk (tOp_D h)
theorem ed_add {i j : Int} (ha : PE X a (tD M r (.int i))) (hb : PE X b (tD M r (.int j))) : PE X (.BinOp a .Add b pos) (tD M r (.int (i + j))) := ed_op op_add ha hb (op2_I0 fun _ _ => rfl)
theorem ed_sub {i j : Int} (ha : PE X a (tD M r (.int i))) (hb : PE X b (tD M r (.int j))) : PE X (.BinOp a .Sub b pos) (tD M r (.int (i - j))) := ed_op op_sub ha hb (op2_I0 fun _ _ => rfl)
theorem ed_mul {i j : Int} (ha : PE X a (tD M r (.int i))) (hb : PE X b (tD M r (.int j))) (hc : CMul i j) : PE X (.BinOp a .Mult b pos) (tD M r (.int (i * j))) := ed_op op_mul ha hb (op2_I hc fun _ _ => rfl)
theorem ed_modN {i j : Int} (ha : PE X a (tD M r (.int i))) (hb : PE X b (tD M r (.int j))) (hc : j ≠ 0) : PE X (.BinOp a .Mod b pos) (tD M r (.int (i.fmod j))) := ed_op op_modN ha hb (op2_I (C := fun _ j => j ≠ 0) hc fun _ _ => rfl)
theorem ed_fdivN {i j : Int} (ha : PE X a (tD M r (.int i))) (hb : PE X b (tD M r (.int j))) (hc : CDivN i j) : PE X (.BinOp a .FloorDiv b pos) (tD M r (.int (i.fdiv j))) := ed_op op_fdivN ha hb (op2_I hc fun _ _ => rfl)
theorem ed_pow {i j : Int} (ha : PE X a (tD M r (.int i))) (hb : PE X b (tD M r (.int j))) (hc : CPow i j) : PE X (.BinOp a .Pow b pos) (tD M r (.int (i ^ j.toNat))) := ed_op op_pow ha hb (op2_I hc fun _ _ => rfl)
theorem ed_neg {i : Int} (ha : PE X a (tD M r (.int i))) : PE X (.UnaryOp .USub a pos) (tD M r (.int (-i))) := (pe_un un_neg ha).wk fun σ H Q ⟨W, hs, ok, q⟩ =>
  ⟨W, hs, ok, fun x H1 dx kx e1 rx => by subst kx; exact ⟨i, rx, q _ H1 _ rfl e1 rfl⟩⟩
/-- comparisons, as values -/
theorem ed_cmp {op : CmpOp} {rr : R2} (ho : OpR X (compareOp op) rr) (ha : PE X a (tD M r da)) (hb : PE X b (tD M r db)) (h : Op2 M rr da db K) (hm : behindInMarks op b = false) : PE X (.Compare a [op] [b] pos) (tN M r K) := (pe_cmpR ho ha hb hm).wk (tOp_D h)
theorem ed_gt {i j : Int} (ha : PE X a (tD M r (.int i))) (hb : PE X b (tD M r (.int j))) : PE X (.Compare a [.Gt] [b] pos) (tD M r (.bl (decide (j < i)))) := ed_cmp op_gt ha hb (op2_I0 fun _ _ => rfl) (nomark _)
theorem ed_ge {i j : Int} (ha : PE X a (tD M r (.int i))) (hb : PE X b (tD M r (.int j))) : PE X (.Compare a [.GtE] [b] pos) (tD M r (.bl (decide (j ≤ i)))) := ed_cmp op_ge ha hb (op2_I0 fun _ _ => rfl) (nomark _)
theorem ed_le {i j : Int} (ha : PE X a (tD M r (.int i))) (hb : PE X b (tD M r (.int j))) : PE X (.Compare a [.LtE] [b] pos) (tD M r (.bl (decide (i ≤ j)))) := ed_cmp op_le ha hb (op2_I0 fun _ _ => rfl) (nomark _)
theorem ed_lt {i j : Int} (ha : PE X a (tD M r (.int i))) (hb : PE X b (tD M r (.int j))) : PE X (.Compare a [.Lt] [b] pos) (tD M r (.bl (decide (i < j)))) := ed_cmp op_lt ha hb (op2_I0 fun _ _ => rfl) (nomark _)
theorem dec_vint (i j : Int) : decide (V.int i = V.int j) = decide (i = j) := by
  by_cases h : i = j
  · rw [h]; simp
  · rw [decide_eq_false h, decide_eq_false fun e => h (V.int.inj e)]
theorem op2_eq {i j : Int} : Op2 M rEq (.int i) (.int j) (fun x => x = .bl (decide (i = j))) := fun W H x y Q ok rx ry q => by
  rw [show x = V.int i from rx, show y = V.int j from ry]
  exact ⟨rfl, by rw [dec_vint]; exact q _ H _ rfl (.refl _ _) rfl⟩
theorem op2_ne {i j : Int} : Op2 M rNe (.int i) (.int j) (fun x => x = .bl (!decide (i = j))) := fun W H x y Q ok rx ry q => by
  rw [show x = V.int i from rx, show y = V.int j from ry]
  exact ⟨rfl, by rw [dec_vint]; exact q _ H _ rfl (.refl _ _) rfl⟩
theorem ed_eqI {i j : Int} (ha : PE X a (tD M r (.int i))) (hb : PE X b (tD M r (.int j))) : PE X (.Compare a [.Eq] [b] pos) (tD M r (.bl (decide (i = j)))) := ed_cmp op_eq ha hb op2_eq (nomark _)
theorem ed_neI {i j : Int} (ha : PE X a (tD M r (.int i))) (hb : PE X b (tD M r (.int j))) : PE X (.Compare a [.NotEq] [b] pos) (tD M r (.bl (!decide (i = j)))) := ed_cmp op_ne ha hb op2_ne (nomark _)
/-! tests -/
theorem td_cmp {op : CmpOp} {rr : R2} {k : Bool} (ho : OpR X (compareOp op) rr) (ha : PE X a (tD M r da)) (hb : PE X b (tD M r db)) (h : Op2 M rr da db (fun x => x = .bl k)) (hm : behindInMarks op b = false) : PT X (.Compare a [op] [b] pos) (tT M r k) :=
  (pt_cmpR ho ha hb hm).wk fun σ H Q ⟨W, hs, ok, q⟩ => tOp_D (K := fun x => x = .bl k) h σ H _ ⟨W, hs, ok, fun v H2 d kd e rv => by subst kd; exact ⟨k, rv, q H2 e⟩⟩
theorem td_gt {i j : Int} (ha : PE X a (tD M r (.int i))) (hb : PE X b (tD M r (.int j))) : PT X (.Compare a [.Gt] [b] pos) (tT M r (decide (j < i))) := td_cmp op_gt ha hb (op2_I0 fun _ _ => rfl) (nomark _)
theorem td_ge {i j : Int} (ha : PE X a (tD M r (.int i))) (hb : PE X b (tD M r (.int j))) : PT X (.Compare a [.GtE] [b] pos) (tT M r (decide (j ≤ i))) := td_cmp op_ge ha hb (op2_I0 fun _ _ => rfl) (nomark _)
theorem td_le {i j : Int} (ha : PE X a (tD M r (.int i))) (hb : PE X b (tD M r (.int j))) : PT X (.Compare a [.LtE] [b] pos) (tT M r (decide (i ≤ j))) := td_cmp op_le ha hb (op2_I0 fun _ _ => rfl) (nomark _)
theorem td_lt {i j : Int} (ha : PE X a (tD M r (.int i))) (hb : PE X b (tD M r (.int j))) : PT X (.Compare a [.Lt] [b] pos) (tT M r (decide (i < j))) := td_cmp op_lt ha hb (op2_I0 fun _ _ => rfl) (nomark _)
theorem td_eqI {i j : Int} (ha : PE X a (tD M r (.int i))) (hb : PE X b (tD M r (.int j))) : PT X (.Compare a [.Eq] [b] pos) (tT M r (decide (i = j))) := td_cmp op_eq ha hb op2_eq (nomark _)
theorem td_neI {i j : Int} (ha : PE X a (tD M r (.int i))) (hb : PE X b (tD M r (.int j))) : PT X (.Compare a [.NotEq] [b] pos) (tT M r (!decide (i = j))) := td_cmp op_ne ha hb op2_ne (nomark _)
/-- an expression whose value is a bool, as a test -/
theorem td_val {k : Bool} (h : PE X e (tD M r (.bl k))) (he : ∀ whole, isTrue e X.env whole = (do let v ← whole; standAt e.pos; holding [v] (truthy v)) := by intro _; rfl) : PT X e (tT M r k) :=
  (pt_val h he).wk fun σ H Q ⟨W, hs, ok, q⟩ => ⟨W, hs, ok, fun v H2 d kd e rv => by subst kd; exact ⟨k, rv, q H2 e⟩⟩
def D.isNon : D → Bool
  | .non => true
  | _ => false
theorem isNon_V {W : Wd} {H : Hp} : ∀ {d : D} {v : V}, Rep M W H d v → decide (v = V.non) = d.isNon
  | .non, v, h => by rw [show v = V.non from h] <;> rfl
  | .bl b, v, h => by rw [show v = V.bl b from h] <;> rfl
  | .int b, v, h => by rw [show v = V.int b from h] <;> rfl
  | .str b, v, h => by rw [show v = V.str b from h] <;> rfl
  | .tup _, v, h => by obtain ⟨a, vs, e, _⟩ := h; rw [e] <;> rfl
  | .lst _, v, h => by obtain ⟨a, vs, e, _⟩ := h; rw [e] <;> rfl
  | .dct _, v, h => by obtain ⟨a, o, es, e, _⟩ := h; rw [e] <;> rfl
  | .ins _ _, v, h => by obtain ⟨a, o, es, e, _⟩ := h; rw [e] <;> rfl
  | .src, v, h => by obtain ⟨a, e, _⟩ := h; rw [e] <;> rfl
  | .dki _, v, h => by obtain ⟨a, o, e, _⟩ := h; rw [e] <;> rfl
  | .ktp _, v, h => by obtain ⟨a, o, e, _⟩ := h; rw [e] <;> rfl
  | .flst _, v, h => by obtain ⟨a, o, vs, e, _⟩ := h; rw [e] <;> rfl
  | .adr a, v, h => by rw [show v = V.ref a from h] <;> rfl
theorem td_isN (ha : PE X a (tD M r da)) : PT X (.Compare a [.Is] [.Constant .none 0 pos] pos) (tT M r da.isNon) :=
  td_cmp op_isN ha (db := .non) ed_non (fun W H x y Q ok rx ry q => ⟨ry, by rw [isNon_V rx]; exact q _ H _ rfl (.refl _ _) rfl⟩) (nomark _)
theorem td_isN' {j p2} (ha : PE X a (tD M r da)) : PT X (.Compare a [.Is] [.Constant .none j p2] pos) (tT M r da.isNon) :=
  td_cmp op_isN ha (db := .non) ed_non (fun W H x y Q ok rx ry q => ⟨ry, by rw [isNon_V rx]; exact q _ H _ rfl (.refl _ _) rfl⟩) (nomark _)
theorem ed_isN {j p2} (ha : PE X a (tD M r da)) : PE X (.Compare a [.Is] [.Constant .none j p2] pos) (tD M r (.bl da.isNon)) :=
  ed_cmp op_isN ha (db := .non) ed_non (fun W H x y Q ok rx ry q => ⟨ry, by rw [isNon_V rx]; exact q _ H _ rfl (.refl _ _) rfl⟩) (nomark _)
theorem td_notN {j p2} (ha : PE X a (tD M r da)) : PT X (.Compare a [.IsNot] [.Constant .none j p2] pos) (tT M r (!da.isNon)) :=
  td_cmp op_notN ha (db := .non) ed_non (fun W H x y Q ok rx ry q => ⟨ry, by rw [isNon_V rx]; exact q _ H _ rfl (.refl _ _) rfl⟩) (nomark _)
theorem td_not {k : Bool} (h : PT X a (tT M r k)) : PT X (.UnaryOp .Not a pos) (tT M r (!k)) := (pt_not h).wk fun σ H Q ⟨W, hs, ok, q⟩ => ⟨W, hs, ok, fun H2 e => q H2 e⟩
theorem tw_and1 {k : Bool} (h : PT X a (tT M r k)) : PW X (.BoolOp .And [a] pos) (tT M r k) := pw_and1 h
theorem tw_or1 {k : Bool} (h : PT X a (tT M r k)) : PW X (.BoolOp .Or [a] pos) (tT M r k) := pw_or1 h
theorem tw_no : PW X e (fun _ _ _ => False) := ⟨fun _ _ _ _ _ _ _ h => h.elim⟩
/-- the right one only where the left one is true -/
theorem tw_and {k l : Bool} (h : PT X a (tT M r k)) (h2 : k = true → PW X (.BoolOp .And (b :: es) pos) (tT M r l)) : PW X (.BoolOp .And (a :: b :: es) pos) (tT M r (k && l)) := by
  cases k with
  | true => exact (pw_and h (h2 rfl)).wk fun σ H Q ⟨W, hs, ok, q⟩ => ⟨W, hs, ok, fun H1 e1 => by
      show tT M r l σ H1 Q
      exact ⟨W, hs.ext ok e1, ok.ext e1, fun H2 e2 => q H2 (e1.trans e2)⟩⟩
  | false => exact (pw_and h tw_no).wk fun σ H Q ⟨W, hs, ok, q⟩ => ⟨W, hs, ok, fun H1 e1 => by
      show Q false H1
      exact q H1 e1⟩
theorem tw_or {k l : Bool} (h : PT X a (tT M r k)) (h2 : k = false → PW X (.BoolOp .Or (b :: es) pos) (tT M r l)) : PW X (.BoolOp .Or (a :: b :: es) pos) (tT M r (k || l)) := by
  cases k with
  | false => exact (pw_or h (h2 rfl)).wk fun σ H Q ⟨W, hs, ok, q⟩ => ⟨W, hs, ok, fun H1 e1 => by
      show tT M r l σ H1 Q
      exact ⟨W, hs.ext ok e1, ok.ext e1, fun H2 e2 => q H2 (e1.trans e2)⟩⟩
  | true => exact (pw_or h tw_no).wk fun σ H Q ⟨W, hs, ok, q⟩ => ⟨W, hs, ok, fun H1 e1 => by
      show Q true H1
      exact q H1 e1⟩
theorem td_is {k l : Bool} (h : PW X e (tT M r k)) (q : k = l) : PW X e (tT M r l) := q ▸ h
theorem tt_is {k l : Bool} (h : PT X e (tT M r k)) (q : k = l) : PT X e (tT M r l) := q ▸ h
theorem ed_no : PE X e (fun _ _ _ => False) := ⟨fun _ _ _ _ _ _ h => h.elim⟩
theorem td_no : PT X e (fun _ _ _ => False) := ⟨fun _ _ _ _ _ _ h => h.elim⟩
/-- as values -/
theorem ed_one {op} (h : PE X a (tN M r K)) : PE X (.BoolOp op [a] pos) (tN M r K) := pe_one h
theorem ed_and {k l : Bool} (h : PE X a (tD M r (.bl k))) (h2 : k = true → PE X (.BoolOp .And (b :: es) pos) (tD M r (.bl l))) : PE X (.BoolOp .And (a :: b :: es) pos) (tD M r (.bl (k && l))) := by
  cases k with
  | true => exact (pe_and h (h2 rfl)).wk fun σ H Q ⟨W, hs, ok, q⟩ => ⟨W, hs, ok, fun v H1 d kd e1 rv => by
      subst kd
      refine ⟨true, rv, ?_⟩
      show tD M r (.bl l) σ H1 Q
      exact ⟨W, hs.ext ok e1, ok.ext e1, fun v H2 d k e2 rv => q v H2 d k (e1.trans e2) rv⟩⟩
  | false => exact (pe_and h ed_no).wk fun σ H Q ⟨W, hs, ok, q⟩ => ⟨W, hs, ok, fun v H1 d kd e1 rv => by
      subst kd
      refine ⟨false, rv, ?_⟩
      show Q (.bl false) H1
      exact q _ H1 _ rfl e1 rfl⟩
theorem ed_or {k l : Bool} (h : PE X a (tD M r (.bl k))) (h2 : k = false → PE X (.BoolOp .Or (b :: es) pos) (tD M r (.bl l))) : PE X (.BoolOp .Or (a :: b :: es) pos) (tD M r (.bl (k || l))) := by
  cases k with
  | false => exact (pe_or h (h2 rfl)).wk fun σ H Q ⟨W, hs, ok, q⟩ => ⟨W, hs, ok, fun v H1 d kd e1 rv => by
      subst kd
      refine ⟨false, rv, ?_⟩
      show tD M r (.bl l) σ H1 Q
      exact ⟨W, hs.ext ok e1, ok.ext e1, fun v H2 d k e2 rv => q v H2 d k (e1.trans e2) rv⟩⟩
  | true => exact (pe_or h ed_no).wk fun σ H Q ⟨W, hs, ok, q⟩ => ⟨W, hs, ok, fun v H1 d kd e1 rv => by
      subst kd
      refine ⟨true, rv, ?_⟩
      show Q (.bl true) H1
      exact q _ H1 _ rfl e1 rfl⟩
theorem ed_not {k : Bool} (h : PE X a (tD M r (.bl k))) : PE X (.UnaryOp .Not a pos) (tD M r (.bl (!k))) := (pe_not h).wk fun σ H Q ⟨W, hs, ok, q⟩ => ⟨W, hs, ok, fun v H1 d kd e1 rv => by
  subst kd
  exact ⟨k, rv, q _ H1 _ rfl e1 rfl⟩⟩
theorem ed_if {c : Expr} {k : Bool} (h : PT X c (tT M r k)) (h1 : k = true → PE X a (tN M r K)) (h2 : k = false → PE X b (tN M r K)) : PE X (.IfExp c a b pos) (tN M r K) := by
  cases k with
  | true => exact (pe_ifExp h (h1 rfl) ed_no).wk fun σ H Q ⟨W, hs, ok, q⟩ => ⟨W, hs, ok, fun H1 e1 => by
      show tN M r K σ H1 Q
      exact ⟨W, hs.ext ok e1, ok.ext e1, fun v H2 d k e2 rv => q v H2 d k (e1.trans e2) rv⟩⟩
  | false => exact (pe_ifExp h ed_no (h2 rfl)).wk fun σ H Q ⟨W, hs, ok, q⟩ => ⟨W, hs, ok, fun H1 e1 => by
      show tN M r K σ H1 Q
      exact ⟨W, hs.ext ok e1, ok.ext e1, fun v H2 d k e2 rv => q v H2 d k (e1.trans e2) rv⟩⟩
/-- a op b op c on ints -/
theorem tChain_D {rr rr' : R2} {da db dc : D} {c : Expr} {k l : Bool} (h1 : Op2 M rr da db (fun x => x = .bl k)) (h2 : Op2 M rr' db dc (fun x => x = .bl l)) : ∀ σ H Q, tD M r (.bl (k && l)) σ H Q → tChain rr rr' (tD M r da) (tD M r db) (tD M r dc) σ H Q := by
  rintro σ H Q ⟨W, hs, ok, q⟩
  refine ⟨W, hs, ok, fun x H1 dx kx e1 rx => ⟨W, hs.ext ok e1, ok.ext e1, fun y H2 dy ky e2 ry => ?_⟩⟩
  subst kx; subst ky
  refine h1 W H2 x y _ ((ok.ext e1).ext e2) (rx.ext (ok.ext e1) e2) ry fun z H3 d kd e3 rz => ⟨k, by subst kd; exact rz, ?_⟩
  cases k with
  | false =>
    show Q (.bl false) H3
    exact q _ H3 _ rfl ((e1.trans e2).trans e3) rfl
  | true =>
    show tD M r dc σ H3 _
    have e123 := (e1.trans e2).trans e3
    refine ⟨W, hs.ext ok e123, ok.ext e123, fun w' H4 dw kw e4 rw' => ?_⟩
    subst kw
    exact h2 W H4 y w' Q ((ok.ext e123).ext e4) ((ry.ext ((ok.ext e1).ext e2) e3).ext (ok.ext e123) e4) rw' fun z' H5 d' kd' e5 rz' => q z' H5 d' kd' ((e123.trans e4).trans e5) rz'
theorem ed_chain {op op' : CmpOp} {rr rr' : R2} {da db dc : D} {c : Expr} {k l : Bool} (ho : OpR X (compareOp op) rr) (ho' : OpR X (compareOp op') rr') (ha : PE X a (tD M r da)) (hb : PE X b (tD M r db)) (hc : PE X c (tD M r dc))
    (h1 : Op2 M rr da db (fun x => x = .bl k)) (h2 : Op2 M rr' db dc (fun x => x = .bl l)) (hm : lastMarks [op, op'] [b, c] = false := by with_unfolding_all rfl) : PE X (.Compare a [op, op'] [b, c] pos) (tD M r (.bl (k && l))) :=
  (pe_chain ho ho' ha hb hc hm).wk (tChain_D (c := c) h1 h2)
theorem td_chain {op op' : CmpOp} {rr rr' : R2} {da db dc : D} {c : Expr} {k l : Bool} (ho : OpR X (compareOp op) rr) (ho' : OpR X (compareOp op') rr') (ha : PE X a (tD M r da)) (hb : PE X b (tD M r db)) (hc : PE X c (tD M r dc))
    (h1 : Op2 M rr da db (fun x => x = .bl k)) (h2 : Op2 M rr' db dc (fun x => x = .bl l)) (hm : lastMarks [op, op'] [b, c] = false := by with_unfolding_all rfl) : PT X (.Compare a [op, op'] [b, c] pos) (tT M r (k && l)) :=
  (pt_chain ho ho' ha hb hc hm).wk fun σ H Q ⟨W, hs, ok, q⟩ => tChain_D (c := c) h1 h2 σ H _ ⟨W, hs, ok, fun v H2 d kd e rv => by subst kd; exact ⟨k && l, rv, q H2 e⟩⟩
theorem ed_leLe {i j l : Int} {c : Expr} (ha : PE X a (tD M r (.int i))) (hb : PE X b (tD M r (.int j))) (hc : PE X c (tD M r (.int l))) (hm : lastMarks [.LtE, .LtE] [b, c] = false := by with_unfolding_all rfl) :
    PE X (.Compare a [.LtE, .LtE] [b, c] pos) (tD M r (.bl (decide (i ≤ j) && decide (j ≤ l)))) := ed_chain op_le op_le ha hb hc (op2_I0 fun _ _ => rfl) (op2_I0 fun _ _ => rfl) hm

/-! ### arguments, displays -/
theorem ea_nil : PA X [] (tAD M r []) := pa_nil.wk fun σ H Q ⟨W, hs, ok, q⟩ => q [] H [] rfl (.refl _ _) rfl
theorem ea_consN {Ks : List D → Prop} {Kr : List D → Prop} (h : PE X e (tN M r K)) (hr : PA X es (tAN M r Kr)) (k : ∀ d ds, K d → Kr ds → Ks (d :: ds)) (hs : starEach (e :: es) X.env = (false, eval e X.env) :: starEach es X.env := by rfl) : PA X (e :: es) (tAN M r Ks) :=
  (pa_cons h hr hs).wk fun σ H Q ⟨W, hs, ok, q⟩ => ⟨W, hs, ok, fun x H1 dx kx e1 rx => ⟨W, hs.ext ok e1, ok.ext e1, fun vs H2 ds ks e2 rs => q (x :: vs) H2 (dx :: ds) (k dx ds kx ks) (e1.trans e2) ⟨x, vs, rfl, rx.ext (ok.ext e1) e2, rs⟩⟩⟩
theorem ea_cons {ds : List D} (h : PE X e (tD M r d)) (hr : PA X es (tAD M r ds)) (hs : starEach (e :: es) X.env = (false, eval e X.env) :: starEach es X.env := by rfl) : PA X (e :: es) (tAD M r (d :: ds)) :=
  ea_consN h hr (fun d ds e1 e2 => by rw [e1, e2]) hs
theorem ed_tupN {Ks : List D → Prop} {x1} (h : PA X es (tAN M r Ks)) (k : ∀ ds, Ks ds → ds.length ≤ sizeLine ∧ K (.tup ds)) : PE X (.Tuple es x1 pos) (tN M r K) := (pe_tup h).wk fun σ H Q ⟨W, hs, ok, q⟩ =>
  ⟨W, hs, ok, fun vs H1 ds ks e1 rs => ⟨by rw [rs.length]; exact (k ds ks).1, fun p hp => q _ _ _ (k ds ks).2 (e1.trans (.new hp)) ⟨p, vs, rfl, (ok.ext e1).nS hp, upd_same, rs.ext (ok.ext e1) (.new hp)⟩⟩⟩
theorem ed_tup {ds : List D} {x1} (h : PA X es (tAD M r ds)) (k : ds.length ≤ sizeLine := by exact Nat.le_of_ble_eq_true rfl) : PE X (.Tuple es x1 pos) (tD M r (.tup ds)) := ed_tupN h fun ds' e => by subst e; exact ⟨k, rfl⟩
theorem ef_lstN {Ks : List D → Prop} (h : PA X es (tAN M r Ks)) (k : ∀ ds, Ks ds → ds.length ≤ sizeLine) : PE X (.List es pos) (tF M r Ks) := (pe_lst h).wk fun σ H Q ⟨W, hs, ok, q⟩ =>
  ⟨W, hs, ok, fun vs H1 ds ks e1 rs => ⟨by rw [rs.length]; exact k ds ks, fun p hp => q p vs _ ds ks (e1.free ok hp) (e1.trans (.new hp)) upd_same
    (RepL.car ((Car.new hp).trans (Car.upd (W := W.add p) (.inr rfl))) ds vs rs)⟩⟩
theorem ef_lst {ds : List D} (h : PA X es (tAD M r ds)) (k : ds.length ≤ sizeLine := by exact Nat.le_of_ble_eq_true rfl) : PE X (.List es pos) (tF M r (fun x => x = ds)) := ef_lstN h fun ds' e => by subst e; exact k
/-- a new list as a datum -/
theorem ed_new {Ks : List D → Prop} (h : PE X e (tF M r Ks)) (k : ∀ ds, Ks ds → K (.lst ds)) : PE X e (tN M r K) := h.wk fun σ H Q ⟨W, hs, ok, q⟩ =>
  ⟨W, hs, ok, fun p vs H2 ds ks hp e h2 rs => q _ H2 _ (k ds ks) e ⟨p, vs, rfl, ok.nS hp, h2, RepL.car Car.back ds vs rs⟩⟩
theorem ed_lst {ds : List D} (h : PA X es (tAD M r ds)) (k : ds.length ≤ sizeLine := by exact Nat.le_of_ble_eq_true rfl) : PE X (.List es pos) (tD M r (.lst ds)) := ed_new (ef_lst h k) fun ds' e => by rw [e]

/-! ### items -/
theorem RepL.atI {W : Wd} {H : Hp} {ds : List D} {vs : List V} {i : Int} (h : RepL M W H ds vs) (e : L2.atI ds i = some d) : ∃ v, L2.atI vs i = some v ∧ Rep M W H d v := by
  unfold L2.atI at e ⊢
  rw [h.length]
  cases q : ixN ds.length i with
  | none => rw [q] at e; cases e
  | some j =>
    rw [q] at e
    exact h.get e
theorem op2_ixL {K' : PySem.W.Frag} {ds : List D} {i : Int} (h : atI ds i = some d) : Op2 M (rIxL K') (.lst ds) (.int i) (fun x => x = d) := fun W H x y Q ok rx ry q => by
  obtain ⟨a, vs, e, n, h1, h2⟩ := rx
  obtain ⟨v, h3, h4⟩ := h2.atI h
  exact ⟨a, vs, i, v, e, ry, .of h1, h3, q v H d rfl (.refl _ _) h4⟩
theorem op2_ixT {K' : PySem.W.Frag} {ds : List D} {i : Int} (h : atI ds i = some d) : Op2 M (rIxT K') (.tup ds) (.int i) (fun x => x = d) := fun W H x y Q ok rx ry q => by
  obtain ⟨a, vs, e, n, h1, h2⟩ := rx
  obtain ⟨v, h3, h4⟩ := h2.atI h
  exact ⟨a, vs, i, v, e, ry, .of h1, h3, q v H d rfl (.refl _ _) h4⟩
theorem ed_ixL {ds : List D} {i : Int} (ha : PE X a (tD M r (.lst ds))) (hb : PE X b (tD M r (.int i))) (h : atI ds i = some d) (hs : PlainIx b := by exact fun _ _ => rfl) : PE X (.Subscript a b pos) (tD M r d) := (pe_ix ix_list ha hb hs).wk (tOp_D (op2_ixL h))
theorem ed_ixT {ds : List D} {i : Int} (ha : PE X a (tD M r (.tup ds))) (hb : PE X b (tD M r (.int i))) (h : atI ds i = some d := by rfl) (hs : PlainIx b := by exact fun _ _ => rfl) : PE X (.Subscript a b pos) (tD M r d) := (pe_ix ix_tup ha hb hs).wk (tOp_D (op2_ixT h))
theorem Op2.imp {rr : R2} {K K' : D → Prop} (h : Op2 M rr da db K) (k : ∀ d, K d → K' d) : Op2 M rr da db K' := fun W H x y Q ok rx ry q => h W H x y Q ok rx ry fun z H2 d kd => q z H2 d (k d kd)
theorem ed_ixLN {ds : List D} (ha : PE X a (tD M r (.lst ds))) (hb : PE X b (tN M r Kb)) (h : ∀ y, Kb y → ∃ i d, y = .int i ∧ atI ds i = some d ∧ K d) (hs : PlainIx b := by exact fun _ _ => rfl) : PE X (.Subscript a b pos) (tN M r K) :=
  (pe_ix ix_list ha hb hs).wk (tOp_N fun dx dy ex ey => by
    obtain ⟨i, d, e, h1, h2⟩ := h dy ey
    subst ex; subst e
    exact (op2_ixL h1).imp fun x e => by rw [e]; exact h2)
/-! key tuples -/
theorem op2_ixK {K' : PySem.W.Frag} {ds : List D} {i : Int} (h : atI ds i = some d) : Op2 M (rIxT K') (.ktp ds) (.int i) (fun x => x = d) := fun W H x y Q ok rx ry q => by
  obtain ⟨a, vs, e, n, h1, h2⟩ := rx
  obtain ⟨v, h3, h4⟩ := h2.atI h
  exact ⟨a, vs, i, v, e, ry, h1.sq, h3, q v H d rfl (.refl _ _) h4⟩
theorem ed_ixK {ds : List D} {i : Int} (ha : PE X a (tD M r (.ktp ds))) (hb : PE X b (tD M r (.int i))) (h : atI ds i = some d := by rfl) (hs : PlainIx b := by exact fun _ _ => rfl) : PE X (.Subscript a b pos) (tD M r d) := (pe_ix ix_tup ha hb hs).wk (tOp_D (op2_ixK h))
theorem pe_ktup {x1} {t : TA} (h : PA X es t) : PE X (.Tuple es x1 pos) (fun σ H Q => t σ H fun xs H1 => xs.length ≤ sizeLine ∧ ∀ p o, H1 p = none → o.dict = none → Q (.ref p) (upd H1 p (.frz o (.tup xs)))) := by
  refine ⟨fun pins s σ H Q I hq => ?_⟩
  refine wpAny_Tuple_spliced (thn (h.run pos pins s σ H _ I hq) fun us s1 ⟨xs, H1, I1, r, z, q⟩ => ⟨by rw [← r.length]; exact z, ?_⟩)
  have hf : H1 s1.heap.objs.size = none := I1.hok.fresh (Nat.le_refl _)
  have hg : (s1.heap.push { cls := .type "tuple", data := .seq us.toArray }).get? s1.heap.objs.size = some { cls := .type "tuple", data := .seq us.toArray } := Heap.get?_push_size _ rfl
  exact ⟨.ref s1.heap.objs.size, upd H1 s1.heap.objs.size (.frz { cls := .type "tuple", data := .seq us.toArray } (.tup xs)), I1.laid (t' := s1.toks) (fun b u e => Heap.get?_push_of_some _ e) (Nat.le_refl _) ⟨hg, z, us, r, ⟨_, hg, rfl, _, rfl⟩⟩, rfl, q _ _ hf rfl⟩
theorem ed_ktpN {Ks : List D → Prop} {x1} (h : PA X es (tAN M r Ks)) (k : ∀ ds, Ks ds → ds.length ≤ sizeLine ∧ K (.ktp ds)) : PE X (.Tuple es x1 pos) (tN M r K) := (pe_ktup h).wk fun σ H Q ⟨W, hs, ok, q⟩ =>
  ⟨W, hs, ok, fun vs H1 ds ks e1 rs => ⟨by rw [rs.length]; exact (k ds ks).1, fun p o hp hd => q _ _ _ (k ds ks).2 (e1.trans (.new hp)) ⟨p, vs, rfl, (ok.ext e1).nS hp, ⟨o, hd, upd_same⟩, rs.ext (ok.ext e1) (.new hp)⟩⟩⟩
theorem ed_ktp {ds : List D} {x1} (h : PA X es (tAD M r ds)) (k : ds.length ≤ sizeLine := by exact Nat.le_of_ble_eq_true rfl) : PE X (.Tuple es x1 pos) (tD M r (.ktp ds)) := ed_ktpN h fun ds' e => by subst e; exact ⟨k, rfl⟩
/-! a table's own lists -/
theorem op2_ixF {K' : PySem.W.Frag} {ds : List D} {i : Int} (h : atI ds i = some d) : Op2 M (rIxL K') (.flst ds) (.int i) (fun x => x = d) := fun W H x y Q ok rx ry q => by
  obtain ⟨a, o, vs, e, n, h1, h2⟩ := rx
  obtain ⟨v, h3, h4⟩ := h2.atI h
  exact ⟨a, vs, i, v, e, ry, .inl (.inr ⟨o, h1⟩), h3, q v H d rfl (.refl _ _) h4⟩
theorem ed_ixF {ds : List D} {i : Int} (ha : PE X a (tD M r (.flst ds))) (hb : PE X b (tD M r (.int i))) (h : atI ds i = some d) (hs : PlainIx b := by exact fun _ _ => rfl) : PE X (.Subscript a b pos) (tD M r d) := (pe_ix ix_list ha hb hs).wk (tOp_D (op2_ixF h))
/-! fields -/
theorem ed_fld {C : Addr} {fs : List (Str × D)} {f : Str} (ha : PE X a (tD M r (.ins C fs))) (c : Cls X.K C) (n : NoAttr X.K C f) (h : fs.lookup f = some d) (hb : attributeBase a f X.env (eval a X.env) = eval a X.env := by rfl) : PE X (.Attribute a f pos) (tD M r d) :=
  (pe_fld ha hb).wk fun σ H Q ⟨W, hs, ok, q⟩ => ⟨W, hs, ok, fun v H1 dx kx e1 rv => by
    subst kx
    obtain ⟨p, dx, gs, e, np, h1, h0, h2⟩ := rv
    obtain ⟨u, h3, h4⟩ := h2.get h
    exact ⟨p, C, dx, gs, u, e, h1, c, n, h3, q u H1 d rfl e1 h4⟩⟩
end
end PD

set_option Elab.async false
set_option linter.all false
set_option maxRecDepth 100000
set_option maxHeartbeats 2000000
/-! Pd3: what a loop or a comprehension walks, told by the data it yields; targets; list comprehensions. -/
namespace PD
open PySem L2

/-- from H1 on, the data of W stand, as data of W' -/
structure Stay (W W' : Wd) (H1 H : Hp) : Prop where
  car : Car W W' H1 H
  tr : ∀ a, W'.S a → ∃ o, H a = some o
structure ItD (M : MW) (W : Wd) (H1 : Hp) (J : It) (ds : List D) : Prop where
  go : ∀ (W' : Wd) (i : Nat) (H : Hp), Stay W W' H1 H → i < ds.length → J.go i H
  stop : ∀ (W' : Wd) (H : Hp), Stay W W' H1 H → J.stop ds.length H
  yld : ∀ (W' : Wd) (i : Nat) (H : Hp) (x : V) (H' : Hp), Stay W W' H1 H → i < ds.length → J.yld i H x H' → Same H H' ∧ ∃ d, ds[i]? = some d ∧ Rep M W' H' d x
def tIN (M : MW) (r : List (Option D)) (K : List D → Prop) : TI := fun σ H R => ∃ W, Slots M W H r σ ∧ W.ok H ∧ ∀ J H1 ds, K ds → Ext W H H1 → ItD M W H1 J ds → R J H1
abbrev tI (M : MW) (r : List (Option D)) (ds : List D) : TI := tIN M r (fun x => x = ds)
theorem _root_.L2.PI.wk {X : Cx} {tg e : Expr} {t t' : TI} (h : PI X tg e t) (w : ∀ σ H Q, t' σ H Q → t σ H Q) : PI X tg e t' := ⟨fun pins s σ H Q I q => h.run pins s σ H Q I (w σ H Q q)⟩
section
variable {M : MW} {W : Wd} {H1 : Hp} {K : PySem.W.Frag} {a : Addr} {vs : List V} {ds : List D}
theorem itd_list (n : ¬ W.S a) (h : H1 a = some (.lst vs)) (r : RepL M W H1 ds vs) : ItD M W H1 (Itl K a) ds where
  go := fun W' i H s hi => by
    obtain ⟨h1, _⟩ := s.car.keep a _ n h
    exact ⟨vs, vs[i]'(by rw [r.length]; exact hi), .of h1, by simp [show i < vs.length by rw [r.length]; exact hi]⟩
  stop := fun W' H s => by
    obtain ⟨h1, _⟩ := s.car.keep a _ n h
    exact ⟨vs, .of h1, by rw [r.length]; exact Nat.le_refl _⟩
  yld := fun W' i H x H' s hi y => by
    obtain ⟨h1, _⟩ := s.car.keep a _ n h
    obtain ⟨e, y⟩ := y
    subst e
    have hx := y vs (.of h1)
    obtain ⟨d, h3, h4⟩ := (RepL.car s.car ds vs r).getV hx
    exact ⟨Same.refl _, d, h3, h4⟩
theorem itd_tup (n : ¬ W.S a) (h : H1 a = some (.tup vs)) (r : RepL M W H1 ds vs) : ItD M W H1 (Itt K a) ds where
  go := fun W' i H s hi => by
    obtain ⟨h1, _⟩ := s.car.keep a _ n h
    exact ⟨vs, vs[i]'(by rw [r.length]; exact hi), .of h1, by simp [show i < vs.length by rw [r.length]; exact hi]⟩
  stop := fun W' H s => by
    obtain ⟨h1, _⟩ := s.car.keep a _ n h
    exact ⟨vs, .of h1, by rw [r.length]; exact Nat.le_refl _⟩
  yld := fun W' i H x H' s hi y => by
    obtain ⟨h1, _⟩ := s.car.keep a _ n h
    obtain ⟨e, y⟩ := y
    subst e
    have hx := y vs (.of h1)
    obtain ⟨d, h3, h4⟩ := (RepL.car s.car ds vs r).getV hx
    exact ⟨Same.refl _, d, h3, h4⟩
theorem itd_ktp (n : ¬ W.S a) (h : KTup H1 a vs) (r : RepL M W H1 ds vs) : ItD M W H1 (Itt K a) ds where
  go := fun W' i H s hi => by
    obtain ⟨o, od, h⟩ := h
    obtain ⟨h1, _⟩ := s.car.keep a _ n h
    exact ⟨vs, vs[i]'(by rw [r.length]; exact hi), KTup.sq ⟨o, od, h1⟩, by simp [show i < vs.length by rw [r.length]; exact hi]⟩
  stop := fun W' H s => by
    obtain ⟨o, od, h⟩ := h
    obtain ⟨h1, _⟩ := s.car.keep a _ n h
    exact ⟨vs, KTup.sq ⟨o, od, h1⟩, by rw [r.length]; exact Nat.le_refl _⟩
  yld := fun W' i H x H' s hi y => by
    obtain ⟨o, od, h⟩ := h
    obtain ⟨h1, _⟩ := s.car.keep a _ n h
    obtain ⟨e, y⟩ := y
    subst e
    have hx := y vs (KTup.sq ⟨o, od, h1⟩)
    obtain ⟨d, h3, h4⟩ := (RepL.car s.car ds vs r).getV hx
    exact ⟨Same.refl _, d, h3, h4⟩
theorem itd_rev (n : ¬ W.S a) (h : H1 a = some (.lst vs)) (r : RepL M W H1 ds vs) : ItD M W H1 (Itv K a vs.length) ds.reverse where
  go := fun W' i H s hi => by
    obtain ⟨h1, _⟩ := s.car.keep a _ n h
    have hl := r.length
    rw [List.length_reverse] at hi
    exact ⟨by omega, vs, vs[vs.length - 1 - i]'(by omega), .of h1, by simp [show vs.length - 1 - i < vs.length by omega]⟩
  stop := fun W' H s => by
    have hl := r.length
    show vs.length ≤ ds.reverse.length
    rw [List.length_reverse, hl]
    exact Nat.le_refl _
  yld := fun W' i H x H' s hi y => by
    obtain ⟨h1, _⟩ := s.car.keep a _ n h
    have hl := r.length
    rw [List.length_reverse] at hi
    obtain ⟨e, y⟩ := y
    subst e
    have hx := y vs (.of h1)
    obtain ⟨d, h3, h4⟩ := (RepL.car s.car ds vs r).getV hx
    refine ⟨Same.refl _, d, ?_, h4⟩
    rw [List.getElem?_reverse hi, ← hl]
    exact h3
theorem itd_range {lo : Int} {n : Nat} : ItD M W H1 (Itr lo n) ((List.range n).map fun i => D.int (lo + (i : Nat))) where
  go := fun W' i H s hi => by
    show i < n
    simpa using hi
  stop := fun W' H s => by
    show n ≤ _
    simp
  yld := fun W' i H x H' s hi y => by
    obtain ⟨e, y⟩ := y
    subst e
    refine ⟨Same.refl _, .int (lo + (i : Nat)), ?_, y⟩
    have hi : i < n := by simpa using hi
    simp [hi]
theorem itd_rangeC {lo c : Int} {n : Nat} : ItD M W H1 (Itc lo c n) ((List.range n).map fun i => D.int (lo + (i : Nat) * c)) where
  go := fun W' i H s hi => by
    show i < n
    simpa using hi
  stop := fun W' H s => by
    show n ≤ _
    simp
  yld := fun W' i H x H' s hi y => by
    obtain ⟨e, y⟩ := y
    subst e
    refine ⟨Same.refl _, .int (lo + (i : Nat) * c), ?_, y⟩
    have hi : i < n := by simpa using hi
    simp [hi]
end
section
variable {X : Cx} {M : MW} {r : List (Option D)} {K : D → Prop} {Ki : List D → Prop} {e a b c tg : Expr} {pos p : Pos} {ds : List D}
theorem ei_listN (h : PE X e (tN M r K)) (k : ∀ d, K d → ∃ ds, d = .lst ds ∧ Ki ds) : PI X tg e (tIN M r Ki) := (pi_list h).wk fun σ H R ⟨W, hs, ok, q⟩ => ⟨W, hs, ok, fun v H1 d kd e1 rv => by
  obtain ⟨ds, e, ki⟩ := k d kd
  subst e
  obtain ⟨a, vs, e, n, h1, h2⟩ := rv
  exact ⟨a, e, ⟨vs, .of h1⟩, q _ H1 ds ki e1 (itd_list n h1 h2)⟩⟩
theorem ei_list (h : PE X e (tD M r (.lst ds))) : PI X tg e (tI M r ds) := ei_listN h fun d e => ⟨ds, e, rfl⟩
theorem ei_tupN (h : PE X e (tN M r K)) (k : ∀ d, K d → ∃ ds, d = .tup ds ∧ Ki ds) : PI X tg e (tIN M r Ki) := (pi_tup h).wk fun σ H R ⟨W, hs, ok, q⟩ => ⟨W, hs, ok, fun v H1 d kd e1 rv => by
  obtain ⟨ds, e, ki⟩ := k d kd
  subst e
  obtain ⟨a, vs, e, n, h1, h2⟩ := rv
  exact ⟨a, e, ⟨vs, .of h1⟩, q _ H1 ds ki e1 (itd_tup n h1 h2)⟩⟩
theorem ei_tup (h : PE X e (tD M r (.tup ds))) : PI X tg e (tI M r ds) := ei_tupN h fun d e => ⟨ds, e, rfl⟩
theorem ei_ktp (h : PE X e (tD M r (.ktp ds))) : PI X tg e (tI M r ds) := (pi_tup h).wk fun σ H R ⟨W, hs, ok, q⟩ => ⟨W, hs, ok, fun v H1 d kd e1 rv => by
  subst kd
  obtain ⟨a, vs, e, n, h1, h2⟩ := rv
  exact ⟨a, e, ⟨vs, h1.sq⟩, q _ H1 ds rfl e1 (itd_ktp n h1 h2)⟩⟩
theorem ei_rev (hm : X.mg "reversed" = none) (h : PA X [e] (tAD M r [.lst ds])) (hg : Gl X "reversed" := by rfl) (hs : starEach [e] X.env = [(false, eval e X.env)] := by rfl) :
    PI X tg (.Call (.Name "reversed" p) [e] [] pos) (tI M r ds.reverse) := (pi_reversed hg hm h hs).wk fun σ H R ⟨W, hs, ok, q⟩ => ⟨W, hs, ok, fun us H1 dd kd e1 rv => by
  subst kd
  obtain ⟨v, rr, e, rv, e2⟩ := rv
  have e2 : rr = [] := e2
  subst e2
  obtain ⟨a, vs, e', n, h1, h2⟩ := rv
  subst e'
  exact ⟨a, vs, e, .of h1, q _ H1 _ rfl e1 (itd_rev n h1 h2)⟩⟩
theorem ei_range1 {n : Int} (hm : X.mg "range" = none) (h : PA X [a] (tAD M r [.int n])) (b1 : -(2 ^ 62) ≤ n) (b2 : n < 2 ^ 62) (hg : Gl X "range" := by rfl) (hs : starEach [a] X.env = [(false, eval a X.env)] := by rfl) :
    PI X tg (.Call (.Name "range" p) [a] [] pos) (tI M r ((List.range n.toNat).map fun i => D.int (0 + (i : Nat)))) := (pi_range1 hg hm h hs).wk fun σ H R ⟨W, hs, ok, q⟩ => ⟨W, hs, ok, fun us H1 dd kd e1 rv => by
  subst kd
  obtain ⟨v, rr, e, rv, e2⟩ := rv
  rw [show rr = [] from e2, show v = V.int n from rv] at e
  exact ⟨n, e, b1, b2, q _ H1 _ rfl e1 itd_range⟩⟩
theorem ei_range2 {l n : Int} (hm : X.mg "range" = none) (h : PA X [a, b] (tAD M r [.int l, .int n])) (bb : -(2 ^ 62) ≤ l ∧ l < 2 ^ 62 ∧ -(2 ^ 62) ≤ n ∧ n < 2 ^ 62) (hg : Gl X "range" := by rfl)
    (hs : starEach [a, b] X.env = [(false, eval a X.env), (false, eval b X.env)] := by rfl) (hs2 : starEach [b] X.env = [(false, eval b X.env)] := by rfl) :
    PI X tg (.Call (.Name "range" p) [a, b] [] pos) (tI M r ((List.range (n - l).toNat).map fun i => D.int (l + (i : Nat)))) := (pi_range2 hg hm h hs hs2).wk fun σ H R ⟨W, hs, ok, q⟩ => ⟨W, hs, ok, fun us H1 dd kd e1 rv => by
  subst kd
  obtain ⟨v, rr, e, rv, v2, r2, e2, rv2, e3⟩ := rv
  rw [e2, show r2 = [] from e3, show v = V.int l from rv, show v2 = V.int n from rv2] at e
  exact ⟨l, n, e, bb, q _ H1 _ rfl e1 itd_range⟩⟩
end
/-! ### targets -/
def SetsTo (M : MW) (W : Wd) (H : Hp) : List (Nat × D) → St → St → Prop
  | [], σ, σ' => σ' = σ
  | (i, d) :: u, σ, σ' => ∃ v, Rep M W H d v ∧ SetsTo M W H u (σ.set i (some v)) σ'
def setsO : List (Nat × D) → List (Option D) → List (Option D)
  | [], r => r
  | (i, d) :: u, r => setsO u (r.set i (some d))
def wipeO (r : List (Option D)) : List Nat → List (Option D)
  | [] => r
  | v :: vs => (wipeO r vs).set v none
section
variable {M : MW} {W : Wd} {H : Hp}
theorem Slots.set {r : List (Option D)} {σ : St} {i : Nat} {d : D} {v : V} (h : Slots M W H r σ) (rv : Rep M W H d v) : Slots M W H (r.set i (some d)) (σ.set i (some v)) := by
  refine ⟨by rw [List.length_set, List.length_set]; exact h.1, fun j d' e => ?_⟩
  by_cases q : i = j
  · subst q
    by_cases hi : i < r.length
    · rw [List.getElem?_set_self hi] at e
      have e : d = d' := by simpa using e
      subst e
      exact ⟨v, List.getElem?_set_self (by rw [← h.1]; exact hi), rv⟩
    · rw [List.getElem?_eq_none (by rw [List.length_set]; omega)] at e; cases e
  · rw [List.getElem?_set_ne q] at e ⊢
    exact h.2 j d' e
theorem Slots.wipe1 {r : List (Option D)} {σ : St} {i : Nat} (h : Slots M W H r σ) : Slots M W H (r.set i none) (σ.set i none) := by
  refine ⟨by rw [List.length_set, List.length_set]; exact h.1, fun j d' e => ?_⟩
  by_cases q : i = j
  · subst q
    by_cases hi : i < r.length
    · rw [List.getElem?_set_self hi] at e
      cases e
    · rw [List.getElem?_eq_none (by rw [List.length_set]; omega)] at e; cases e
  · rw [List.getElem?_set_ne q] at e ⊢
    exact h.2 j d' e
theorem Slots.wipe {r : List (Option D)} {σ : St} (h : Slots M W H r σ) : ∀ vs : List Nat, Slots M W H (wipeO r vs) (L2.wipe σ vs)
  | [] => h
  | v :: vs => (Slots.wipe h vs).wipe1
theorem Slots.sets : ∀ {u : List (Nat × D)} {r : List (Option D)} {σ σ' : St}, Slots M W H r σ → SetsTo M W H u σ σ' → Slots M W H (setsO u r) σ'
  | [], r, σ, σ', h, s => by rw [show σ' = σ from s]; exact h
  | (i, d) :: u, r, σ, σ', h, s => by
    obtain ⟨v, rv, s⟩ := s
    show Slots M W H (setsO u (r.set i (some d))) σ'
    exact Slots.sets (h.set rv) s
theorem wipe_sets : ∀ {u : List (Nat × D)} {vs : List Nat} {σ σ' : St}, (∀ p ∈ u, p.1 ∈ vs) → SetsTo M W H u σ σ' → L2.wipe σ' vs = L2.wipe σ vs
  | [], vs, σ, σ', _, s => by rw [show σ' = σ from s]
  | (i, d) :: u, vs, σ, σ', h, s => by
    obtain ⟨v, rv, s⟩ := s
    rw [wipe_sets (fun p hp => h p (List.mem_cons_of_mem _ hp)) s]
    have hi : i ∈ vs := h (i, d) List.mem_cons_self
    clear s h rv
    induction vs with
    | nil => cases hi
    | cons w vs ih =>
      show (L2.wipe (σ.set i (some v)) vs).set w none = (L2.wipe σ vs).set w none
      by_cases q : i ∈ vs
      · rw [ih q]
      · have e : i = w := by
          rcases List.mem_cons.mp hi with e | e
          · exact e
          · exact absurd e q
        subst e
        have key : ∀ us : List Nat, i ∉ us → L2.wipe (σ.set i (some v)) us = (L2.wipe σ us).set i (some v) := fun us => by
          induction us with
          | nil => intro _; rfl
          | cons z us ih2 =>
            intro hz
            have hz1 : i ≠ z := fun e => hz (by rw [e]; exact List.mem_cons_self)
            have hz2 : i ∉ us := fun m => hz (List.mem_cons_of_mem _ m)
            show (L2.wipe (σ.set i (some v)) us).set z none = ((L2.wipe σ us).set z none).set i (some v)
            rw [ih2 hz2, List.set_comm _ _ hz1]
        rw [key vs q, List.set_set]
theorem wipe_idem : ∀ (σ : St) (vs : List Nat), L2.wipe (L2.wipe σ vs) vs = L2.wipe σ vs := fun σ vs => by
  have key : ∀ (us : List Nat) (τ : St), (∀ i ∈ us, τ[i]? = some none ∨ τ.length ≤ i) → L2.wipe τ us = τ := fun us => by
    induction us with
    | nil => intro τ _; rfl
    | cons z us ih =>
      intro τ h
      show (L2.wipe τ us).set z none = τ
      rw [ih τ fun i hi => h i (List.mem_cons_of_mem _ hi)]
      rcases h z List.mem_cons_self with e | e
      · obtain ⟨hz, e⟩ := List.getElem?_eq_some_iff.mp e
        conv => rhs; rw [← List.set_getElem_self hz]
        rw [e]
      · exact List.set_eq_of_length_le e
  refine key vs _ fun i hi => ?_
  have : ∀ (us : List Nat), i ∈ us → (L2.wipe σ us)[i]? = some none ∨ (L2.wipe σ us).length ≤ i := fun us => by
    induction us with
    | nil => intro h; cases h
    | cons z us ih =>
      intro h
      show ((L2.wipe σ us).set z none)[i]? = some none ∨ ((L2.wipe σ us).set z none).length ≤ i
      rw [List.length_set]
      by_cases hl : i < (L2.wipe σ us).length
      · left
        by_cases q : z = i
        · subst q
          exact List.getElem?_set_self hl
        · rw [List.getElem?_set_ne q]
          rcases List.mem_cons.mp h with e | e
          · exact absurd e.symm q
          · rcases ih e with g | g
            · exact g
            · omega
      · right; omega
  exact this vs hi
end
def GD (M : MW) (g : TG) (d : D) (u : List (Nat × D)) : Prop := ∀ (W : Wd) (σ : St) (H : Hp) (v : V) (Q : St → Hp → Prop), Rep M W H d v → (∀ σ', SetsTo M W H u σ σ' → Q σ' H) → g v σ H Q
def GDs (M : MW) (g : TGs) (ds : List D) (u : List (Nat × D)) : Prop := ∀ (W : Wd) (σ : St) (H : Hp) (vs : List V) (Q : St → Hp → Prop), RepL M W H ds vs → (∀ σ', SetsTo M W H u σ σ' → Q σ' H) → g vs σ H Q
section
variable {M : MW} {K : PySem.W.Frag}
theorem gd_name {i : Nat} {d : D} : GD M (gName i) d [(i, d)] := fun W σ H v Q rv q => q _ ⟨v, rv, rfl⟩
theorem gd_nil : GDs M gNil [] [] := fun W σ H vs Q rv q => ⟨rv, q σ rfl⟩
theorem setsTo_append {W : Wd} {H : Hp} : ∀ {u u' : List (Nat × D)} {σ σ1 σ2 : St}, SetsTo M W H u σ σ1 → SetsTo M W H u' σ1 σ2 → SetsTo M W H (u ++ u') σ σ2
  | [], u', σ, σ1, σ2, s, s' => by rw [show σ1 = σ from s] at s'; exact s'
  | (i, d) :: u, u', σ, σ1, σ2, s, s' => by
    obtain ⟨v, rv, s⟩ := s
    exact ⟨v, rv, setsTo_append s s'⟩
theorem gd_cons {g : TG} {gs : TGs} {d : D} {ds : List D} {u u' : List (Nat × D)} (h : GD M g d u) (h' : GDs M gs ds u') : GDs M (gCons g gs) (d :: ds) (u ++ u') := fun W σ H vs Q rv q => by
  obtain ⟨v, r, e, r1, r2⟩ := rv
  subst e
  exact ⟨v, r, rfl, h W σ H v _ r1 fun σ1 s1 => h' W σ1 H r Q r2 fun σ2 s2 => q σ2 (setsTo_append s1 s2)⟩
theorem gd_ktp {gs : TGs} {ds : List D} {u : List (Nat × D)} {n : Nat} (h : GDs M gs ds u) (hl : ds.length = n := by rfl) : GD M (gTup K n gs) (.ktp ds) u := fun W σ H v Q rv q => by
  obtain ⟨a, vs, e, na, h1, h2⟩ := rv
  exact ⟨a, vs, e, h1.sq, by rw [h2.length]; exact hl, h W σ H vs Q h2 q⟩
theorem gd_tup {gs : TGs} {ds : List D} {u : List (Nat × D)} {n : Nat} (h : GDs M gs ds u) (hl : ds.length = n := by rfl) : GD M (gTup K n gs) (.tup ds) u := fun W σ H v Q rv q => by
  obtain ⟨a, vs, e, na, h1, h2⟩ := rv
  exact ⟨a, vs, e, .of h1, by rw [h2.length]; exact hl, h W σ H vs Q h2 q⟩
end
/-! ### list comprehensions -/
/-- the results of a comprehension over xs -/
def CompK {α : Type} (b : α → Bool) (Kf : α → D → Prop) : List α → List D → Prop
  | [], rs => rs = []
  | x :: xs, rs => if b x = true then ∃ d r, rs = d :: r ∧ Kf x d ∧ CompK b Kf xs r else CompK b Kf xs rs
theorem compK_yes {α : Type} {b : α → Bool} {Kf : α → D → Prop} {x : α} {d : D} (hb : b x = true) (hk : Kf x d) : ∀ {xs : List α} {rs : List D}, CompK b Kf xs rs → CompK b Kf (xs ++ [x]) (rs ++ [d])
  | [], rs, h => by
    rw [show rs = [] from h]
    show if b x = true then _ else _
    rw [if_pos hb]
    exact ⟨d, [], rfl, hk, rfl⟩
  | y :: xs, rs, h => by
    have h : if b y = true then ∃ d r, rs = d :: r ∧ Kf y d ∧ CompK b Kf xs r else CompK b Kf xs rs := h
    show if b y = true then ∃ d' r, rs ++ [d] = d' :: r ∧ Kf y d' ∧ CompK b Kf (xs ++ [x]) r else CompK b Kf (xs ++ [x]) (rs ++ [d])
    by_cases hy : b y = true
    · rw [if_pos hy] at h ⊢
      obtain ⟨d', r, e, h1, h2⟩ := h
      subst e
      exact ⟨d', r ++ [d], rfl, h1, compK_yes hb hk h2⟩
    · rw [if_neg hy] at h ⊢
      exact compK_yes hb hk h
theorem compK_no {α : Type} {b : α → Bool} {Kf : α → D → Prop} {x : α} (hb : ¬ b x = true) : ∀ {xs : List α} {rs : List D}, CompK b Kf xs rs → CompK b Kf (xs ++ [x]) rs
  | [], rs, h => by
    show if b x = true then _ else _
    rw [if_neg hb]
    exact h
  | y :: xs, rs, h => by
    have h : if b y = true then ∃ d r, rs = d :: r ∧ Kf y d ∧ CompK b Kf xs r else CompK b Kf xs rs := h
    show if b y = true then ∃ d' r, rs = d' :: r ∧ Kf y d' ∧ CompK b Kf (xs ++ [x]) r else CompK b Kf (xs ++ [x]) rs
    by_cases hy : b y = true
    · rw [if_pos hy] at h ⊢
      obtain ⟨d', r, e, h1, h2⟩ := h
      exact ⟨d', r, e, h1, compK_no hb h2⟩
    · rw [if_neg hy] at h ⊢
      exact compK_no hb h
theorem compK_length {α : Type} {b : α → Bool} {Kf : α → D → Prop} : ∀ {xs : List α} {rs : List D}, CompK b Kf xs rs → rs.length ≤ xs.length
  | [], rs, h => by rw [show rs = [] from h]; exact Nat.le_refl _
  | y :: xs, rs, h => by
    have h : if b y = true then ∃ d r, rs = d :: r ∧ Kf y d ∧ CompK b Kf xs r else CompK b Kf xs rs := h
    by_cases hy : b y = true
    · rw [if_pos hy] at h
      obtain ⟨d', r, e, h1, h2⟩ := h
      subst e
      exact Nat.succ_le_succ (compK_length h2)
    · rw [if_neg hy] at h
      exact Nat.le_succ_of_le (compK_length h)
theorem compK_det {α : Type} {b : α → Bool} {f : α → D} : ∀ {xs : List α} {rs : List D}, CompK b (fun x d => d = f x) xs rs → rs = (xs.filter b).map f
  | [], rs, h => h
  | y :: xs, rs, h => by
    have h : if b y = true then ∃ d r, rs = d :: r ∧ d = f y ∧ CompK b (fun x d => d = f x) xs r else CompK b (fun x d => d = f x) xs rs := h
    by_cases hy : b y = true
    · rw [if_pos hy] at h
      obtain ⟨d', r, e, h1, h2⟩ := h
      rw [List.filter_cons, if_pos hy, e, h1, compK_det h2] <;> rfl
    · rw [if_neg hy] at h
      rw [List.filter_cons, if_neg hy, compK_det h]
section
variable {X : Cx} {r : List (Option D)}
theorem take_snoc {α : Type} {xs : List α} {i : Nat} {x : α} (h : xs[i]? = some x) : xs.take (i + 1) = xs.take i ++ [x] := by
  rw [List.take_succ, h]; rfl
/-- the reading of a comprehension's test, of its element -/
def ttC {α : Type} (M : MW) (r : List (Option D)) (xs : List α) (u : α → List (Nat × D)) (b : α → Bool) (vs : List Nat) : TT := fun σ H Q => ∃ x, x ∈ xs ∧ tT M (setsO (u x) (wipeO r vs)) (b x) σ H Q
def teC {α : Type} (M : MW) (r : List (Option D)) (xs : List α) (u : α → List (Nat × D)) (b : α → Bool) (Kf : α → D → Prop) (vs : List Nat) : TE := fun σ H Q => ∃ x, x ∈ xs ∧ b x = true ∧ tN M (setsO (u x) (wipeO r vs)) (Kf x) σ H Q
theorem lc_read {α : Type} {M : MW} {g : TG} {own : List (Str × Nat)} (xs : List α) (enc : α → D) (u : α → List (Nat × D)) (b : α → Bool) (Kf : α → D → Prop)
    (gd : ∀ x ∈ xs, GD M g (enc x) (u x)) (hu : ∀ x ∈ xs, ∀ p ∈ u x, p.1 ∈ own.map (·.2)) (hz : xs.length < sizeLine) :
    ∀ σ H Q, tF M r (CompK b Kf xs) σ H Q → tLc (tI M r (xs.map enc)) g (ttC M r xs u b (own.map (·.2))) (teC M r xs u b Kf (own.map (·.2))) (own.map (·.2)) σ H Q := by
  rintro σ H Q ⟨W, hsl, wok, q⟩
  refine ⟨W, hsl, wok, fun J H1 ds ed e1 it => ?_⟩
  subst ed
  intro Dl hDl
  have ok1 := wok.ext e1
  have hsl1 := hsl.ext wok e1
  have hlen : (xs.map enc).length = xs.length := List.length_map _
  -- what holds between the turns
  let Pv : Nat → Hp → Prop := fun i H => ∃ rs vs, Ext W H1 H ∧ H Dl = some (.lst vs) ∧ RepL M (W.add Dl) H rs vs ∧ CompK b Kf (xs.take i) rs
  have okD : ∀ {H : Hp}, Ext W H1 H → (∃ o, H Dl = some o) → (W.add Dl).ok H := fun {H} e o => (ok1.ext e).adds fun a z => by rw [show a = Dl from z]; exact o
  have stay : ∀ {H : Hp}, Ext W H1 H → (∃ o, H Dl = some o) → Stay W (W.add Dl) H1 H := fun {H} e o => ⟨⟨fun a o' n h => ⟨e.keep a o' (fun t => n (ok1.sub a t)) h, fun z => z.elim n fun z => by
    have z : a = Dl := z
    rw [z, hDl] at h; cases h⟩, fun _ t => t⟩, (okD e o).tr⟩
  refine ⟨fun i m H => m = xs.length - i ∧ i ≤ xs.length ∧ Pv i H, ⟨xs.length, by simp, Nat.zero_le _, [], [], Ext.new hDl, upd_same, rfl, rfl⟩, ?_⟩
  rintro i m H2 ⟨rfl, hle, rs, vs, e2, hD2, rr, ck⟩
  have st2 := stay e2 ⟨_, hD2⟩
  by_cases hlt : i < xs.length
  · refine .inr ⟨it.go _ i H2 st2 (by rw [hlen]; exact hlt), Pv (i + 1), fun H' p => ⟨xs.length - (i + 1), by omega, rfl, hlt, p⟩, fun x H3 y => ?_⟩
    obtain ⟨sm, d, hd, rx⟩ := it.yld _ i H2 x H3 st2 (by rw [hlen]; exact hlt) y
    obtain ⟨z, hz1, hz2⟩ : ∃ z, xs[i]? = some z ∧ enc z = d := by
      rw [List.getElem?_map] at hd
      cases q : xs[i]? with
      | none => rw [q] at hd; cases hd
      | some z => rw [q] at hd; exact ⟨z, rfl, by simpa using hd⟩
    subst hz2
    have hzm : z ∈ xs := List.mem_of_getElem? hz1
    have e3 : Ext W H1 H3 := e2.trans (.same sm)
    have hD3 : H3 Dl = some (.lst vs) := sm _ _ hD2
    have ok3 := okD e3 ⟨_, hD3⟩
    have rr3 : RepL M (W.add Dl) H3 rs vs := rr.ext (okD e2 ⟨_, hD2⟩) (.same sm)
    have sl3 : Slots M (W.add Dl) H3 r σ := hsl1.car (stay e3 ⟨_, hD3⟩).car
    have nT : ¬ W.T Dl := fun t => by
      obtain ⟨o, e⟩ := ok1.tr Dl (ok1.sub Dl t)
      rw [hDl] at e; cases e
    refine gd z hzm (W.add Dl) (L2.wipe σ (own.map (·.2))) H3 x _ rx fun σ2 s2 => ?_
    refine ⟨(wipe_sets (hu z hzm) s2).trans (wipe_idem σ _), ?_⟩
    have sl4 : Slots M (W.add Dl) H3 (setsO (u z) (wipeO r (own.map (·.2)))) σ2 := (sl3.wipe _).sets s2
    refine ⟨z, hzm, W.add Dl, sl4, ok3, fun H4 e4 => ?_⟩
    have e4' : Ext W H3 H4 := Ext.adds.mp e4
    have hD4 : H4 Dl = some (.lst vs) := e4.keep _ _ nT hD3
    have rr4 := rr3.ext ok3 e4
    cases hb : b z with
    | false =>
      show Pv (i + 1) H4
      refine ⟨rs, vs, e3.trans e4', hD4, rr4, ?_⟩
      rw [take_snoc hz1]
      exact compK_no (by rw [hb]; decide) ck
    | true =>
      show ∃ x, x ∈ xs ∧ b x = true ∧ _
      refine ⟨z, hzm, hb, W.add Dl, sl4.ext ok3 e4, ok3.ext e4, fun v H5 d kd e5 rv => ?_⟩
      have e5' : Ext W H4 H5 := Ext.adds.mp e5
      have hD5 : H5 Dl = some (.lst vs) := e5.keep _ _ nT hD4
      have rr5 := rr4.ext (ok3.ext e4) e5
      refine ⟨vs, hD5, ?_, rs ++ [d], vs ++ [v], ((e3.trans e4').trans e5').mut hDl, upd_same, ?_, ?_⟩
      · rw [rr5.length]
        have h1 := compK_length ck
        rw [List.length_take] at h1
        omega
      · exact RepL.car (Car.upd (W := W.add Dl) (.inr rfl)) _ _ (rr5.append (.one rv))
      · rw [take_snoc hz1]
        exact compK_yes hb kd ck
  · have e : i = xs.length := by omega
    subst e
    refine .inl ⟨by rw [← hlen]; exact it.stop _ H2 st2, ?_⟩
    refine q Dl vs H2 rs ?_ (e1.free wok hDl) (e1.trans e2) hD2 rr
    rw [List.take_length] at ck
    exact ck
/-- [elt for tg in iter if ..]: the items are enc x, x in xs -/
theorem ef_lcN {α : Type} {elt tg iter : Expr} {ifs : List Expr} {scope : Scope} {own : List (Str × Nat)} {pos : Pos} {g : TG} (xs : List α) (enc : α → D) (u : α → List (Nat × D)) (b : α → Bool) (Kf : α → D → Prop)
    (hc : X.calm = true) (hN : X.N.Nodup) (hi : PI X tg iter (tI (pw X) r (xs.map enc))) (ok : BlkOk X.N X.env.scope scope own)
    (hg : ∀ (s : Shared) (H : Hp) (C : Addr) (cl : List (Str × Addr)) (fp : List Addr), PG (X.blk s H scope (compEnvC scope cl C X.env) fp) tg g) (gd : ∀ x ∈ xs, GD (pw X) g (enc x) (u x)) (hu : ∀ x ∈ xs, ∀ p ∈ u x, p.1 ∈ own.map (·.2))
    (ht : ∀ x ∈ xs, ∀ (s : Shared) (H : Hp) (C : Addr) (cl : List (Str × Addr)) (fp : List Addr), PTs (X.blk s H scope (compEnvC scope cl C X.env) fp) ifs (tT (pw X) (setsO (u x) (wipeO r (own.map (·.2)))) (b x)))
    (he : ∀ x ∈ xs, b x = true → ∀ (s : Shared) (H : Hp) (C : Addr) (cl : List (Str × Addr)) (fp : List Addr), PE (X.blk s H scope (compEnvC scope cl C X.env) fp) elt (tN (pw X) (setsO (u x) (wipeO r (own.map (·.2)))) (Kf x)))
    (hz : xs.length < sizeLine) (hs : ∀ x, foldedSetIterable iter X.env x = pure x := by intro _; rfl) :
    PE X (.ListComp elt [⟨tg, iter, ifs, 0⟩] scope pos) (tF (pw X) r (CompK b Kf xs)) :=
  (pe_lc (g := g) (tt := ttC (pw X) r xs u b (own.map (·.2))) (te := teC (pw X) r xs u b Kf (own.map (·.2))) hc hN hi ok hg
    (fun s H C cl fp => ⟨fun pins s' σ H' Q I h => let ⟨x, hx, q⟩ := h; (ht x hx s H C cl fp).run pins s' σ H' Q I q⟩) (fun s H C cl fp => ⟨fun pins s' σ H' Q I h => let ⟨x, hx, hb, q⟩ := h; (he x hx hb s H C cl fp).run pins s' σ H' Q I q⟩) hs).wk (lc_read xs enc u b Kf gd hu hz)
/-- each element a function of its item -/
theorem ef_lc {α : Type} {elt tg iter : Expr} {ifs : List Expr} {scope : Scope} {own : List (Str × Nat)} {pos : Pos} {g : TG} (xs : List α) (enc : α → D) (u : α → List (Nat × D)) (b : α → Bool) (f : α → D)
    (hc : X.calm = true) (hN : X.N.Nodup) (hi : PI X tg iter (tI (pw X) r (xs.map enc))) (ok : BlkOk X.N X.env.scope scope own)
    (hg : ∀ (s : Shared) (H : Hp) (C : Addr) (cl : List (Str × Addr)) (fp : List Addr), PG (X.blk s H scope (compEnvC scope cl C X.env) fp) tg g) (gd : ∀ x ∈ xs, GD (pw X) g (enc x) (u x)) (hu : ∀ x ∈ xs, ∀ p ∈ u x, p.1 ∈ own.map (·.2))
    (ht : ∀ x ∈ xs, ∀ (s : Shared) (H : Hp) (C : Addr) (cl : List (Str × Addr)) (fp : List Addr), PTs (X.blk s H scope (compEnvC scope cl C X.env) fp) ifs (tT (pw X) (setsO (u x) (wipeO r (own.map (·.2)))) (b x)))
    (he : ∀ x ∈ xs, b x = true → ∀ (s : Shared) (H : Hp) (C : Addr) (cl : List (Str × Addr)) (fp : List Addr), PE (X.blk s H scope (compEnvC scope cl C X.env) fp) elt (tD (pw X) (setsO (u x) (wipeO r (own.map (·.2)))) (f x)))
    (hz : xs.length < sizeLine) (hs : ∀ x, foldedSetIterable iter X.env x = pure x := by intro _; rfl) :
    PE X (.ListComp elt [⟨tg, iter, ifs, 0⟩] scope pos) (tF (pw X) r (fun rs => rs = (xs.filter b).map f)) :=
  (ef_lcN xs enc u b (fun x d => d = f x) hc hN hi ok hg gd hu ht he hz hs).wk fun σ H Q ⟨W, hsl, wok, q⟩ => ⟨W, hsl, wok, fun p vs H2 ds ck => q p vs H2 ds (compK_det ck)⟩
theorem td_tests {M : MW} : PTs X [] (tT M r true) := ⟨fun pins s σ H Q I ⟨W, hs, ok, q⟩ => pts_nil.run pins s σ H Q I (q H (.refl _ _))⟩
theorem td_test1 {M : MW} {c : Expr} {b : Bool} (h : PT X c (tT M r b)) : PTs X [c] (tT M r b) := pts_one h
end
end PD

set_option Elab.async false
set_option linter.all false
set_option maxRecDepth 100000
set_option maxHeartbeats 2000000
/-! Pd4: statements: At (what the slots hold: data, or lists and dicts that the def itself is building), Hs (a block leads from P to its ends), the rules for statements, a def's promise over data. -/
namespace PD
open PySem L2

/-- what a slot holds: nothing told, a datum, a list that is being built, a dict with nested keys that is being built -/
inductive Slot where
  | none | val (d : D) | own (ds : List D) | ownD (kvs : List (NestedKey × D)) | ownI (kvs : List (Int × Int))
  | selfS (p dx C : Addr) (fs : List (Str × D)) (ls : List (Str × Addr × List D))
def SlotOk (M : MW) (W : Wd) (H : Hp) (oi : Option Addr) : Slot → Option (Option V) → Prop
  | .none, _ => oi = Option.none
  | .val d, v => oi = Option.none ∧ ∃ x, v = some (some x) ∧ Rep M W H d x
  | .own ds, v => ∃ p vs, oi = some p ∧ v = some (some (.ref p)) ∧ H p = some (.lst vs) ∧ RepL M W H ds vs
  | .ownD kvs, v => ∃ p o es, oi = some p ∧ v = some (some (.ref p)) ∧ H p = some (dO p o) ∧ (p == sysModules) = false ∧ Ents M o es ∧ RepKV M W H kvs es
  | .ownI kvs, v => ∃ p o, oi = some p ∧ v = some (some (.ref p)) ∧ H p = some (dO p o) ∧ (p == sysModules) = false ∧ IEnts M p o kvs
  | .selfS p dx C fs ls, v => oi = Option.none ∧ v = some (some (.ref p)) ∧ ¬ W.S p ∧ ∃ gs, H p = some (.ins C dx gs) ∧ OnlyTab gs ∧ gs.length ≤ fs.length + ls.length ∧ RepF M W H fs gs ∧
      ∀ x ∈ ls, gs.lookup x.1 = some (.ref x.2.1) ∧ ¬ W.S x.2.1 ∧ ∃ o vs, H x.2.1 = some (.frz o (.lst vs)) ∧ RepL M W H x.2.2 vs
def OwnS (own : Nat → Option Addr) : Addr → Prop := fun a => ∃ i, own i = some a
structure AtO (M : MW) (W : Wd) (H0 : Hp) (r : List Slot) (σ : St) (H : Hp) (own : Nat → Option Addr) : Prop where
  ok : W.ok H0
  ext : Ext W H0 H
  len : r.length = σ.length
  inj : ∀ i j p, own i = some p → own j = some p → i = j
  fresh : ∀ i p, own i = some p → H0 p = Option.none
  bnd : ∀ i p, own i = some p → i < r.length
  sl : ∀ (i : Nat) (s : Slot), r[i]? = some s → SlotOk M (W.adds (OwnS own)) H (own i) s σ[i]?
def At (M : MW) (W : Wd) (H0 : Hp) (r : List Slot) (σ : St) (H : Hp) : Prop := ∃ own, AtO M W H0 r σ H own
/-- a table in the making, as a datum -/
def selfD (C : Addr) (fs : List (Str × D)) (ls : List (Str × Addr × List D)) : D := .ins C (fs ++ ls.map fun x => (x.1, .flst x.2.2))
def vis : List Slot → List (Option D) := List.map fun s => match s with
  | .val d => some d
  | .selfS _ _ C fs ls => some (selfD C fs ls)
  | _ => none
section
variable {M : MW} {W : Wd} {H0 H H' : Hp} {r : List Slot} {σ : St} {own : Nat → Option Addr}
theorem AtO.okW (a : AtO M W H0 r σ H own) : W.ok H := a.ok.ext a.ext
theorem SlotOk.tr {oi : Option Addr} {s : Slot} {v : Option (Option V)} {p : Addr} (h : SlotOk M W H oi s v) (e : oi = some p) : ∃ o, H p = some o := by
  cases s with
  | none => rw [show oi = Option.none from h] at e; cases e
  | val d => rw [h.1] at e; cases e
  | own ds => obtain ⟨q, vs, e1, _, e2, _⟩ := h; rw [e1] at e; cases e; exact ⟨_, e2⟩
  | ownD kvs => obtain ⟨q, o, es, e1, _, e2, _⟩ := h; rw [e1] at e; cases e; exact ⟨_, e2⟩
  | ownI kvs => obtain ⟨q, o, e1, _, e2, _⟩ := h; rw [e1] at e; cases e; exact ⟨_, e2⟩
  | selfS p dx C fs ls => rw [h.1] at e; cases e
theorem AtO.tr (a : AtO M W H0 r σ H own) {i : Nat} {p : Addr} (e : own i = some p) : ∃ o, H p = some o :=
  (a.sl i (r[i]'(a.bnd i p e)) (by simp [a.bnd i p e])).tr e
theorem AtO.ok' (a : AtO M W H0 r σ H own) : (W.adds (OwnS own)).ok H := a.okW.adds fun p ⟨i, e⟩ => a.tr e
theorem AtO.nT (a : AtO M W H0 r σ H own) {i : Nat} {p : Addr} (e : own i = some p) : ¬ W.T p := fun t => by
  obtain ⟨o, q⟩ := a.ok.tr p (a.ok.sub p t)
  rw [a.fresh i p e] at q; cases q
theorem AtO.nS (a : AtO M W H0 r σ H own) {i : Nat} {p : Addr} (e : own i = some p) : ¬ W.S p := a.ok.nS (a.fresh i p e)
theorem RepF.append {W : Wd} {H : Hp} {fs fs' : List (Str × D)} {gs : List (Str × V)} (h : RepF M W H fs gs) (h' : RepF M W H fs' gs) : RepF M W H (fs ++ fs') gs := by
  induction fs with
  | nil => exact h'
  | cons x fs ih => exact ⟨h.1, ih h.2⟩
theorem vis_get {i : Nat} {d : D} (h : (vis r)[i]? = some (some d)) : r[i]? = some (.val d) ∨ ∃ p dx C fs ls, r[i]? = some (.selfS p dx C fs ls) ∧ d = selfD C fs ls := by
  unfold vis at h
  rw [List.getElem?_map] at h
  cases q : r[i]? with
  | none => rw [q] at h; cases h
  | some s =>
    rw [q] at h
    cases s with
    | val d' =>
      have h : some (some d') = some (some d) := h
      cases h; exact .inl rfl
    | none => cases h
    | own ds => cases h
    | ownD kvs => cases h
    | ownI kvs => cases h
    | selfS p dx C fs ls =>
      have h : some (some (selfD C fs ls)) = some (some d) := h
      cases h
      exact .inr ⟨p, dx, C, fs, ls, rfl, rfl⟩
theorem self_rep {W : Wd} {H : Hp} {oi : Option Addr} {p dx C : Addr} {fs : List (Str × D)} {ls : List (Str × Addr × List D)} {v : Option (Option V)} (h : SlotOk M W H oi (.selfS p dx C fs ls) v) : Rep M W H (selfD C fs ls) (.ref p) := by
  obtain ⟨_, _, np, gs, h1, h2, hlen, h3, h4⟩ := h
  refine ⟨p, dx, gs, rfl, np, h1, h2, h3.append ?_⟩
  clear h1 h2 h3 hlen
  induction ls with
  | nil => trivial
  | cons x ls ih =>
    obtain ⟨a1, a2, o, vs, a3, a4⟩ := h4 x List.mem_cons_self
    exact ⟨⟨_, a1, x.2.1, o, vs, rfl, a2, a3, a4⟩, ih fun y hy => h4 y (List.mem_cons_of_mem _ hy)⟩
theorem AtO.slots (a : AtO M W H0 r σ H own) : Slots M (W.adds (OwnS own)) H (vis r) σ := by
  refine ⟨by unfold vis; rw [List.length_map]; exact a.len, fun i d h => ?_⟩
  rcases vis_get h with q | ⟨p, dx, C, fs, ls, q, e⟩
  · exact (a.sl i _ q).2
  · have s := a.sl i _ q
    rw [e]
    exact ⟨.ref p, s.2.1, self_rep s⟩
/-- an expression has run -/
theorem SlotOk.ext {oi : Option Addr} {s : Slot} {v : Option (Option V)} (ok : W.ok H) (e : Ext W H H') (n : ∀ p, oi = some p → ¬ W.T p) (h : SlotOk M W H oi s v) : SlotOk M W H' oi s v := by
  cases s with
  | none => exact h
  | val d => obtain ⟨h1, x, h2, h3⟩ := h; exact ⟨h1, x, h2, h3.ext ok e⟩
  | own ds => obtain ⟨p, vs, h1, h2, h3, h4⟩ := h; exact ⟨p, vs, h1, h2, e.keep _ _ (n p h1) h3, h4.ext ok e⟩
  | ownD kvs => obtain ⟨p, o, es, h1, h2, h3, h0, h4, h5⟩ := h; exact ⟨p, o, es, h1, h2, e.keep _ _ (n p h1) h3, h0, h4, h5.ext ok e⟩
  | ownI kvs => obtain ⟨p, o, h1, h2, h3, h0, h4⟩ := h; exact ⟨p, o, h1, h2, e.keep _ _ (n p h1) h3, h0, h4⟩
  | selfS p dx C fs ls =>
    obtain ⟨h1, h2, np, gs, h3, h4, h5, h6, h7⟩ := h
    exact ⟨h1, h2, np, gs, e.keep _ _ (fun t => np (ok.sub p t)) h3, h4, h5, RepF.car (.ext ok e) fs gs h6, fun x hx =>
      let ⟨a1, a2, o, vs, a3, a4⟩ := h7 x hx; ⟨a1, a2, o, vs, e.keep _ _ (fun t => a2 (ok.sub _ t)) a3, a4.ext ok e⟩⟩
theorem AtO.go (a : AtO M W H0 r σ H own) (e : Ext W H H') : AtO M W H0 r σ H' own where
  ok := a.ok
  ext := a.ext.trans e
  len := a.len
  inj := a.inj
  fresh := a.fresh
  bnd := a.bnd
  sl := fun i s h => (a.sl i s h).ext a.ok' (Ext.adds.mpr e) fun p q => a.nT q
theorem At.go (a : At M W H0 r σ H) (e : Ext W H H') : At M W H0 r σ H' := let ⟨o, a⟩ := a; ⟨o, a.go e⟩
/-- a smaller base -/
theorem At.base {H1 : Hp} (a : At M W H1 r σ H) (ok : W.ok H0) (e : Ext W H0 H1) : At M W H0 r σ H := let ⟨o, a⟩ := a
  ⟨o, ok, e.trans a.ext, a.len, a.inj, fun i p q => e.free ok (a.fresh i p q), a.bnd, a.sl⟩
/-- what stood at a loop's start but for what is being built -/
def lessO (H : Hp) (own : Nat → Option Addr) (n : Nat) : Hp := fun a => if (List.range n).any (fun i => decide (own i = some a)) = true then Option.none else H a
theorem lessO_own {i n : Nat} {p : Addr} (h : own i = some p) (hi : i < n) : lessO H own n p = Option.none := by
  unfold lessO
  rw [if_pos]
  exact List.any_eq_true.mpr ⟨i, List.mem_range.mpr hi, decide_eq_true h⟩
theorem lessO_of {n : Nat} {p : Addr} {o : HO} (h : lessO H own n p = some o) : H p = some o ∧ ∀ i, i < n → own i ≠ some p := by
  unfold lessO at h
  split at h
  · cases h
  · rename_i q
    exact ⟨h, fun i hi e => q (List.any_eq_true.mpr ⟨i, List.mem_range.mpr hi, decide_eq_true e⟩)⟩
theorem lessO_keep {n : Nat} {p : Addr} (h : ∀ i, i < n → own i ≠ some p) : lessO H own n p = H p := by
  unfold lessO
  rw [if_neg]
  intro q
  obtain ⟨i, hi, e⟩ := List.any_eq_true.mp q
  exact h i (List.mem_range.mp hi) (of_decide_eq_true e)
theorem AtO.ext0 (a : AtO M W H0 r σ H own) : Ext W H0 (lessO H own r.length) := by
  have ne : ∀ {p : Addr} {o : HO}, H0 p = some o → ∀ i, i < r.length → own i ≠ some p := fun {p o} e i _ q => by
    rw [a.fresh i p q] at e; cases e
  refine ⟨fun p o n e => by rw [lessO_keep (ne e)]; exact a.ext.keep p o n e, fun p t s => ?_⟩
  obtain ⟨x, y, z, e⟩ := id s
  obtain ⟨x', y', z', e'⟩ := a.ext.src p t s
  exact ⟨x', y', z', by rw [lessO_keep (ne e)]; exact e'⟩
/-- the base moved up to here -/
theorem AtO.up (a : AtO M W H0 r σ H own) : AtO M W (lessO H own r.length) r σ H own where
  ok := a.ok.ext a.ext0
  ext := .same fun p o e => (lessO_of e).1
  len := a.len
  inj := a.inj
  fresh := fun i p e => lessO_own e (a.bnd i p e)
  bnd := a.bnd
  sl := a.sl
theorem SlotOk.car {W' : Wd} {oi : Option Addr} {s : Slot} {v : Option (Option V)} (c : Car W W' H H') (n : ∀ p o, oi = some p → H p = some o → H' p = some o) (h : SlotOk M W H oi s v) : SlotOk M W' H' oi s v := by
  cases s with
  | none => exact h
  | val d => obtain ⟨h1, x, h2, h3⟩ := h; exact ⟨h1, x, h2, Rep.car c d x h3⟩
  | own ds => obtain ⟨p, vs, h1, h2, h3, h4⟩ := h; exact ⟨p, vs, h1, h2, n _ _ h1 h3, RepL.car c ds vs h4⟩
  | ownD kvs => obtain ⟨p, o, es, h1, h2, h3, h0, h4, h5⟩ := h; exact ⟨p, o, es, h1, h2, n _ _ h1 h3, h0, h4, RepKV.car c kvs es h5⟩
  | ownI kvs => obtain ⟨p, o, h1, h2, h3, h0, h4⟩ := h; exact ⟨p, o, h1, h2, n _ _ h1 h3, h0, h4⟩
  | selfS p dx C fs ls =>
    obtain ⟨h1, h2, np, gs, h3, h4, h5, h6, h7⟩ := h
    obtain ⟨k3, knp⟩ := c.keep p _ np h3
    refine ⟨h1, h2, knp, gs, k3, h4, h5, RepF.car c fs gs h6, fun x hx => ?_⟩
    obtain ⟨a1, a2, o, vs, a3, a4⟩ := h7 x hx
    obtain ⟨b3, b2⟩ := c.keep _ _ a2 a3
    exact ⟨a1, b2, o, vs, b3, RepL.car c _ vs a4⟩
/-! ### slots changed -/
def ownSet (own : Nat → Option Addr) (i : Nat) (o : Option Addr) : Nat → Option Addr := fun j => if j = i then o else own j
theorem ownSet_same {i : Nat} {o : Option Addr} : ownSet own i o i = o := if_pos rfl
theorem ownSet_ne {i j : Nat} {o : Option Addr} (h : j ≠ i) : ownSet own i o j = own j := if_neg h
theorem ownSet_none {i j : Nat} {p : Addr} (h : ownSet own i Option.none j = some p) : own j = some p := by
  by_cases e : j = i
  · subst e; rw [ownSet_same] at h; cases h
  · rw [ownSet_ne e] at h; exact h
/-- a datum stored at slot i (whatever stood there) -/
theorem AtO.set {i : Nat} {d : D} {v : V} (a : AtO M W H0 r σ H own) (rv : Rep M (W.adds (OwnS own)) H d v) : AtO M W H0 (r.set i (.val d)) (σ.set i (some v)) H (ownSet own i Option.none) := by
  have sub : ∀ p, OwnS (ownSet own i Option.none) p → OwnS own p := fun p ⟨j, e⟩ => ⟨j, ownSet_none e⟩
  have car : Car (W.adds (OwnS own)) (W.adds (OwnS (ownSet own i Option.none))) H H := Car.weak (fun p s => s.elim .inl fun z => .inr (sub p z)) fun _ t => t
  refine ⟨a.ok, a.ext, by rw [List.length_set, List.length_set]; exact a.len, fun j k p e1 e2 => a.inj j k p (ownSet_none e1) (ownSet_none e2), fun j p e => a.fresh j p (ownSet_none e), fun j p e => by rw [List.length_set]; exact a.bnd j p (ownSet_none e), fun j s h => ?_⟩
  by_cases q : i = j
  · subst q
    by_cases hi : i < r.length
    · rw [List.getElem?_set_self hi] at h
      cases h
      rw [ownSet_same, List.getElem?_set_self (by rw [← a.len]; exact hi)]
      exact ⟨rfl, v, rfl, Rep.car car d v rv⟩
    · rw [List.getElem?_eq_none (by rw [List.length_set]; omega)] at h; cases h
  · rw [List.getElem?_set_ne q] at h ⊢
    rw [ownSet_ne (Ne.symm q)]
    exact (a.sl j s h).car car fun p o _ e => e
theorem At.set {i : Nat} {d : D} {v : V} (a : AtO M W H0 r σ H own) (rv : Rep M (W.adds (OwnS own)) H d v) : At M W H0 (r.set i (.val d)) (σ.set i (some v)) H := ⟨_, a.set rv⟩
def setsS : List (Nat × D) → List Slot → List Slot
  | [], r => r
  | (i, d) :: u, r => setsS u (r.set i (.val d))
theorem At.sets : ∀ {u : List (Nat × D)} {r : List Slot} {σ σ' : St} {own : Nat → Option Addr}, AtO M W H0 r σ H own → SetsTo M (W.adds (OwnS own)) H u σ σ' → At M W H0 (setsS u r) σ' H
  | [], r, σ, σ', own, a, s => by rw [show σ' = σ from s]; exact ⟨own, a⟩
  | (i, d) :: u, r, σ, σ', own, a, s => by
    obtain ⟨v, rv, s⟩ := s
    have a' := a.set (i := i) rv
    have weak : ∀ (u : List (Nat × D)) (τ τ' : St), SetsTo M (W.adds (OwnS own)) H u τ τ' → SetsTo M (W.adds (OwnS (ownSet own i Option.none))) H u τ τ' := fun u => by
      induction u with
      | nil => intro τ τ' h; exact h
      | cons p u ih =>
        obtain ⟨j, d'⟩ := p
        intro τ τ' h
        obtain ⟨v', r', h'⟩ := h
        have cw : Car (W.adds (OwnS own)) (W.adds (OwnS (ownSet own i Option.none))) H H := ⟨fun q o n g => ⟨g, fun z => n (by
          rcases z with z | ⟨k, z⟩
          · exact .inl z
          · exact .inr ⟨k, ownSet_none z⟩)⟩, fun _ t => t⟩
        exact ⟨v', Rep.car cw d' v' r', ih _ _ h'⟩
    exact At.sets (u := u) a' (weak _ _ _ s)
/-- a new list stored at slot i: from now on it is being built -/
theorem AtO.new {i : Nat} {p : Addr} {s : Slot} (a : AtO M W H0 r σ H own) (hi : i < r.length) (hp : H p = Option.none) (e : Ext W H H') (hs : SlotOk M ((W.adds (OwnS own)).add p) H' (some p) s (some (some (.ref p)))) :
    At M W H0 (r.set i s) (σ.set i (some (.ref p))) H' := by
  have ex := a.ext.trans e
  have pO : ∀ {j : Nat} {q : Addr}, own j = some q → q ≠ p := fun {j q} h z => by
    obtain ⟨o, g⟩ := a.tr h
    rw [z, hp] at g; cases g
  have hp0 : H0 p = Option.none := a.ext.free a.ok hp
  have sub : ∀ q, OwnS (ownSet own i (some p)) q → OwnS own q ∨ q = p := fun q ⟨j, g⟩ => by
    by_cases z : j = i
    · subst z; rw [ownSet_same] at g; cases g; exact .inr rfl
    · rw [ownSet_ne z] at g; exact .inl ⟨j, g⟩
  have wk : Car ((W.adds (OwnS own)).add p) (W.adds (OwnS (ownSet own i (some p)))) H' H' := ⟨fun q o n g => ⟨g, fun z => n (by
    rcases z with z | z
    · exact .inl (.inl z)
    · rcases sub q z with y | y
      · exact .inl (.inr y)
      · exact .inr y)⟩, fun _ t => t⟩
  have car : Car (W.adds (OwnS own)) (W.adds (OwnS (ownSet own i (some p)))) H H' := ⟨fun q o n g => (by
    obtain ⟨g', _⟩ := (Car.ext a.ok' (Ext.adds.mpr e)).keep q o n g
    refine ⟨g', fun z => ?_⟩
    rcases z with z | z
    · exact n (.inl z)
    · rcases sub q z with y | y
      · exact n (.inr y)
      · rw [y, hp] at g; cases g), fun _ t => t⟩
  refine ⟨ownSet own i (some p), a.ok, ex, by rw [List.length_set, List.length_set]; exact a.len, fun j k q e1 e2 => ?_, fun j q g => ?_, fun j q g => ?_, fun j s' h => ?_⟩
  · by_cases y1 : j = i
    · by_cases y2 : k = i
      · rw [y1, y2]
      · subst y1
        rw [ownSet_same] at e1; cases e1
        rw [ownSet_ne y2] at e2
        exact absurd rfl (pO e2)
    · by_cases y2 : k = i
      · subst y2
        rw [ownSet_same] at e2; cases e2
        rw [ownSet_ne y1] at e1
        exact absurd rfl (pO e1)
      · rw [ownSet_ne y1] at e1
        rw [ownSet_ne y2] at e2
        exact a.inj j k q e1 e2
  · rcases sub q ⟨j, g⟩ with ⟨k, y⟩ | y
    · exact a.fresh k q y
    · rw [y]; exact hp0
  · rw [List.length_set]
    by_cases y : j = i
    · rw [y]; exact hi
    · rw [ownSet_ne y] at g
      exact a.bnd j q g
  · by_cases q : i = j
    · subst q
      rw [List.getElem?_set_self hi] at h
      cases h
      rw [ownSet_same, List.getElem?_set_self (by rw [← a.len]; exact hi)]
      exact hs.car wk fun _ _ _ g => g
    · rw [List.getElem?_set_ne q] at h ⊢
      rw [ownSet_ne (Ne.symm q)]
      exact (a.sl j s' h).car car fun q o z g => e.keep q o (a.nT z) g
/-- a list (a dict) that is being built is changed -/
theorem AtO.upd {i : Nat} {p : Addr} {s : Slot} {o : HO} (a : AtO M W H0 r σ H own) (hi : i < r.length) (hp : own i = some p) (hs : SlotOk M (W.adds (OwnS own)) (L2.upd H p o) (some p) s σ[i]?) : At M W H0 (r.set i s) σ (L2.upd H p o) := by
  have sp : (W.adds (OwnS own)).S p := .inr ⟨i, hp⟩
  refine ⟨own, a.ok, a.ext.mut (a.fresh i p hp), by rw [List.length_set]; exact a.len, a.inj, a.fresh, fun j q g => by rw [List.length_set]; exact a.bnd j q g, fun j s' h => ?_⟩
  by_cases q : i = j
  · subst q
    rw [List.getElem?_set_self hi] at h
    cases h
    rw [hp]
    exact hs
  · rw [List.getElem?_set_ne q] at h
    refine (a.sl j s' h).car (Car.upd sp) fun q' u z g => ?_
    rw [upd_ne fun e => q (a.inj i j p hp (by rw [z, e])).symm.symm]
    exact g
/-- a built list is handed on as a datum -/
theorem AtO.freeze {i : Nat} {ds : List D} (a : AtO M W H0 r σ H own) (h : r[i]? = some (.own ds)) : ∃ v, σ[i]? = some (some v) ∧ Rep M (W.adds (OwnS (ownSet own i Option.none))) H (.lst ds) v ∧ At M W H0 (r.set i (.val (.lst ds))) σ H := by
  have hi : i < r.length := (List.getElem?_eq_some_iff.mp h).1
  obtain ⟨p, vs, h1, h2, h3, h4⟩ := a.sl i _ h
  have cw : Car (W.adds (OwnS own)) (W.adds (OwnS (ownSet own i Option.none))) H H := ⟨fun q o n g => ⟨g, fun z => n (by
    rcases z with z | ⟨k, z⟩
    · exact .inl z
    · exact .inr ⟨k, ownSet_none z⟩)⟩, fun _ t => t⟩
  have nS : ¬ (W.adds (OwnS (ownSet own i Option.none))).S p := fun z => by
    rcases z with z | ⟨k, z⟩
    · exact a.nS h1 z
    · have y := a.inj k i p (ownSet_none z) h1
      rw [y, ownSet_same] at z; cases z
  have rv : Rep M (W.adds (OwnS (ownSet own i Option.none))) H (.lst ds) (.ref p) := ⟨p, vs, rfl, nS, h3, RepL.car cw ds vs h4⟩
  refine ⟨.ref p, h2, rv, ownSet own i Option.none, a.ok, a.ext, by rw [List.length_set]; exact a.len, fun j k q e1 e2 => a.inj j k q (ownSet_none e1) (ownSet_none e2), fun j q g => a.fresh j q (ownSet_none g), fun j q g => by rw [List.length_set]; exact a.bnd j q (ownSet_none g), fun j s' g => ?_⟩
  by_cases q : i = j
  · subst q
    rw [List.getElem?_set_self hi] at g
    cases g
    rw [ownSet_same]
    exact ⟨rfl, _, h2, rv⟩
  · rw [List.getElem?_set_ne q] at g
    rw [ownSet_ne (Ne.symm q)]
    exact (a.sl j s' g).car cw fun _ _ _ g => g
theorem AtO.freezeD {i : Nat} {ds : List (NestedKey × D)} (a : AtO M W H0 r σ H own) (h : r[i]? = some (.ownD ds)) : ∃ v, σ[i]? = some (some v) ∧ Rep M (W.adds (OwnS (ownSet own i Option.none))) H (.dct ds) v ∧ At M W H0 (r.set i (.val (.dct ds))) σ H := by
  have hi : i < r.length := (List.getElem?_eq_some_iff.mp h).1
  obtain ⟨p, o, es, h1, h2, h3, h0, h4, h5⟩ := a.sl i _ h
  have cw : Car (W.adds (OwnS own)) (W.adds (OwnS (ownSet own i Option.none))) H H := ⟨fun q o n g => ⟨g, fun z => n (by
    rcases z with z | ⟨k, z⟩
    · exact .inl z
    · exact .inr ⟨k, ownSet_none z⟩)⟩, fun _ t => t⟩
  have nS : ¬ (W.adds (OwnS (ownSet own i Option.none))).S p := fun z => by
    rcases z with z | ⟨k, z⟩
    · exact a.nS h1 z
    · have y := a.inj k i p (ownSet_none z) h1
      rw [y, ownSet_same] at z; cases z
  have rv : Rep M (W.adds (OwnS (ownSet own i Option.none))) H (.dct ds) (.ref p) := ⟨p, o, es, rfl, nS, h3, h0, h4, RepKV.car cw ds es h5⟩
  refine ⟨.ref p, h2, rv, ownSet own i Option.none, a.ok, a.ext, by rw [List.length_set]; exact a.len, fun j k q e1 e2 => a.inj j k q (ownSet_none e1) (ownSet_none e2), fun j q g => a.fresh j q (ownSet_none g), fun j q g => by rw [List.length_set]; exact a.bnd j q (ownSet_none g), fun j s' g => ?_⟩
  by_cases q : i = j
  · subst q
    rw [List.getElem?_set_self hi] at g
    cases g
    rw [ownSet_same]
    exact ⟨rfl, _, h2, rv⟩
  · rw [List.getElem?_set_ne q] at g
    rw [ownSet_ne (Ne.symm q)]
    exact (a.sl j s' g).car cw fun _ _ _ g => g
theorem AtO.freezeI {i : Nat} {ds : List (Int × Int)} (a : AtO M W H0 r σ H own) (h : r[i]? = some (.ownI ds)) : ∃ v, σ[i]? = some (some v) ∧ Rep M (W.adds (OwnS (ownSet own i Option.none))) H (.dki ds) v ∧ At M W H0 (r.set i (.val (.dki ds))) σ H := by
  have hi : i < r.length := (List.getElem?_eq_some_iff.mp h).1
  obtain ⟨p, o, h1, h2, h3, h0, h4⟩ := a.sl i _ h
  have cw : Car (W.adds (OwnS own)) (W.adds (OwnS (ownSet own i Option.none))) H H := ⟨fun q o n g => ⟨g, fun z => n (by
    rcases z with z | ⟨k, z⟩
    · exact .inl z
    · exact .inr ⟨k, ownSet_none z⟩)⟩, fun _ t => t⟩
  have nS : ¬ (W.adds (OwnS (ownSet own i Option.none))).S p := fun z => by
    rcases z with z | ⟨k, z⟩
    · exact a.nS h1 z
    · have y := a.inj k i p (ownSet_none z) h1
      rw [y, ownSet_same] at z; cases z
  have rv : Rep M (W.adds (OwnS (ownSet own i Option.none))) H (.dki ds) (.ref p) := ⟨p, o, rfl, nS, h3, h0, h4⟩
  refine ⟨.ref p, h2, rv, ownSet own i Option.none, a.ok, a.ext, by rw [List.length_set]; exact a.len, fun j k q e1 e2 => a.inj j k q (ownSet_none e1) (ownSet_none e2), fun j q g => a.fresh j q (ownSet_none g), fun j q g => by rw [List.length_set]; exact a.bnd j q (ownSet_none g), fun j s' g => ?_⟩
  by_cases q : i = j
  · subst q
    rw [List.getElem?_set_self hi] at g
    cases g
    rw [ownSet_same]
    exact ⟨rfl, _, h2, rv⟩
  · rw [List.getElem?_set_ne q] at g
    rw [ownSet_ne (Ne.symm q)]
    exact (a.sl j s' g).car cw fun _ _ _ g => g
theorem At.frz {i : Nat} {ds : List D} (a : At M W H0 r σ H) (h : r[i]? = some (.own ds)) : At M W H0 (r.set i (.val (.lst ds))) σ H := let ⟨o, a⟩ := a
  let ⟨_, _, _, q⟩ := a.freeze h; q
theorem At.frzD {i : Nat} {ds : List (NestedKey × D)} (a : At M W H0 r σ H) (h : r[i]? = some (.ownD ds)) : At M W H0 (r.set i (.val (.dct ds))) σ H := let ⟨o, a⟩ := a
  let ⟨_, _, _, q⟩ := a.freezeD h; q
theorem At.frzI {i : Nat} {ds : List (Int × Int)} (a : At M W H0 r σ H) (h : r[i]? = some (.ownI ds)) : At M W H0 (r.set i (.val (.dki ds))) σ H := let ⟨o, a⟩ := a
  let ⟨_, _, _, q⟩ := a.freezeI h; q
/-- what a slot holds is forgotten -/
theorem At.drop {i : Nat} (a : At M W H0 r σ H) : At M W H0 (r.set i .none) σ H := by
  obtain ⟨own, a⟩ := a
  have cw : Car (W.adds (OwnS own)) (W.adds (OwnS (ownSet own i Option.none))) H H := ⟨fun q o n g => ⟨g, fun z => n (by
    rcases z with z | ⟨k, z⟩
    · exact .inl z
    · exact .inr ⟨k, ownSet_none z⟩)⟩, fun _ t => t⟩
  refine ⟨ownSet own i Option.none, a.ok, a.ext, by rw [List.length_set]; exact a.len, fun j k q e1 e2 => a.inj j k q (ownSet_none e1) (ownSet_none e2), fun j q g => a.fresh j q (ownSet_none g), fun j q g => by rw [List.length_set]; exact a.bnd j q (ownSet_none g), fun j s' g => ?_⟩
  by_cases q : i = j
  · subst q
    by_cases hi : i < r.length
    · rw [List.getElem?_set_self hi] at g
      cases g
      exact ownSet_same
    · rw [List.getElem?_eq_none (by rw [List.length_set]; omega)] at g; cases g
  · rw [List.getElem?_set_ne q] at g
    rw [ownSet_ne (Ne.symm q)]
    exact (a.sl j s' g).car cw fun _ _ _ g => g
end
end PD

set_option Elab.async false
set_option linter.all false
set_option maxRecDepth 100000
set_option maxHeartbeats 2000000
/-! Pd5: blocks: Hs, the rules for statements; a def's promise over data (spO), calls. -/
namespace PD
open PySem L2

def Le (E D : Ends) : Prop := (∀ σ H, E.nx σ H → D.nx σ H) ∧ (∀ v H, E.rt v H → D.rt v H) ∧ (∀ σ H, E.bk σ H → D.bk σ H) ∧ (∀ σ H, E.ct σ H → D.ct σ H)
theorem Le.refl (E : Ends) : Le E E := ⟨fun _ _ h => h, fun _ _ h => h, fun _ _ h => h, fun _ _ h => h⟩
/-- the block leads from P to its ends -/
structure Hs (X : Cx) (sts : List Stmt) (P : St → Hp → Prop) (E : Ends) : Prop where
  run : ∀ (pins : List (Addr × Obj)) (s : Shared) (σ : St) (H : Hp), Inv X pins σ H s → P σ H → wpAny (model X.prog X.w) X.A (execs sts X.env) (SP X pins E) X.xe s
section
variable {X : Cx} {sts rest : List Stmt} {st : Stmt} {P P' M : St → Hp → Prop} {E E' D : Ends} {t : TS}
theorem SP.le {pins : List (Addr × Obj)} {f : Flow} {s : Shared} (l : Le E D) (h : SP X pins E f s) : SP X pins D f s := by
  cases f with
  | next => obtain ⟨σ, H, I, q⟩ := h; exact ⟨σ, H, I, l.1 _ _ q⟩
  | brk => obtain ⟨σ, H, I, q⟩ := h; exact ⟨σ, H, I, l.2.2.1 _ _ q⟩
  | cont => obtain ⟨σ, H, I, q⟩ := h; exact ⟨σ, H, I, l.2.2.2 _ _ q⟩
  | ret u => obtain ⟨v, σ, H, I, r, q⟩ := h; exact ⟨v, σ, H, I, r, l.2.1 _ _ q⟩
theorem hs_pss (h : PSs X sts t) (q : ∀ σ H, P σ H → t E σ H) : Hs X sts P E := ⟨fun pins s σ H I p => h.run pins s σ H E I (q σ H p)⟩
theorem pss_hs {ι : Sort _} {P : ι → St → Hp → Prop} {E : ι → Ends} (h : ∀ i, Hs X sts (P i) (E i)) : PSs X sts (fun D σ H => ∃ i, P i σ H ∧ Le (E i) D) := ⟨fun pins s σ H D I ⟨i, p, l⟩ => thn ((h i).run pins s σ H I p) fun f s' q => SP.le l q⟩
theorem hs_pre (p : ∀ σ H, P σ H → P' σ H) (h : Hs X sts P' E) : Hs X sts P E := ⟨fun pins s σ H I q => h.run pins s σ H I (p σ H q)⟩
theorem hs_post (l : Le E E') (h : Hs X sts P E) : Hs X sts P E' := ⟨fun pins s σ H I q => thn (h.run pins s σ H I q) fun f s' q => SP.le l q⟩
theorem hs_ex {ι : Sort _} {P : ι → St → Hp → Prop} (h : ∀ i, Hs X sts (P i) E) : Hs X sts (fun σ H => ∃ i, P i σ H) E := ⟨fun pins s σ H I ⟨i, q⟩ => (h i).run pins s σ H I q⟩
theorem hs_nil (h : ∀ σ H, P σ H → E.nx σ H) : Hs X [] P E := hs_pss pss_nil h
theorem hs_cons (h : PS X st t) (q : ∀ σ H, P σ H → t { E with nx := M } σ H) (k : Hs X rest M E) : Hs X (st :: rest) P E := by
  refine ⟨fun pins s σ H I p => ?_⟩
  refine wpAny_execs_cons (thn (h.run pins s σ H { E with nx := M } I (q σ H p)) fun f s1 q1 => ?_)
  cases f with
  | next =>
    obtain ⟨σ', H', I', q⟩ := q1
    exact k.run pins s1 σ' H' I' q
  | ret v => exact q1
  | brk => exact q1
  | cont => exact q1
theorem hs_never (h : ∀ σ H, ¬ P σ H) : Hs X sts P E := ⟨fun pins s σ H I p => absurd p (h σ H)⟩
end

/-- what a def hands back: a datum of K -/
def Rt (M : MW) (W : Wd) (H0 : Hp) (K : D → Prop) : V → Hp → Prop := fun v H' => ∃ d, K d ∧ Ext W H0 H' ∧ Rep M W H' d v
section
variable {X : Cx} {W : Wd} {H0 : Hp} {r : List Slot} {K : D → Prop} {rest : List Stmt} {E : Ends} {e : Expr} {pos pos' : Pos} {x : Str} {i : Nat} {d : D}
/-- an expression's reading, from what the slots hold -/
theorem At.tN {M : MW} {σ : St} {H : Hp} {Q : VK} (a : At M W H0 r σ H) (q : ∀ own v H2 d, AtO M W H0 r σ H2 own → K d → Rep M (W.adds (OwnS own)) H2 d v → Q v H2) : PD.tN M (vis r) K σ H Q := by
  obtain ⟨own, a⟩ := a
  exact ⟨W.adds (OwnS own), a.slots, a.ok', fun v H2 d kd e rv => q own v H2 d (a.go (Ext.adds.mp e)) kd rv⟩
theorem At.tT {M : MW} {σ : St} {H : Hp} {b : Bool} {Q : Bool → Hp → Prop} (a : At M W H0 r σ H) (q : ∀ H2, At M W H0 r σ H2 → Q b H2) : PD.tT M (vis r) b σ H Q := by
  obtain ⟨own, a⟩ := a
  exact ⟨W.adds (OwnS own), a.slots, a.ok', fun H2 e => q H2 ⟨own, a.go (Ext.adds.mp e)⟩⟩
theorem hs_set (i : Nat) (he : PE X e (tN (pw X) (vis r) K)) (k : ∀ d, K d → Hs X rest (At (pw X) W H0 (r.set i (.val d))) E) (hN : X.N.Nodup) (hi : X.N[i]? = some x := by rfl) (hx : Loc X.env.scope x := by first | exact .inl rfl | exact .inr rfl)
    (hs : swapsWith e (some (.Name x pos')) pos.line X.env = pure false := by rfl) (hf : X.fn x = true ∨ X.env.scope.names.lookup x = some .local := by first | exact .inl rfl | exact .inr rfl | assumption) :
    Hs X (.Assign [.Name x pos'] e pos :: rest) (At (pw X) W H0 r) E :=
  hs_cons (M := fun σ H => ∃ d : { d // K d }, At (pw X) W H0 (r.set i (.val d.1)) σ H) (ps_set hN hi hx he hs hf) (fun σ H a => a.tN fun own v H2 d a kd rv => ⟨⟨d, kd⟩, AtO.set (i := i) a rv |> fun z => (⟨_, z⟩ : At (pw X) W H0 (r.set i (.val d)) (σ.set i (some v)) H2)⟩) (hs_ex fun d => k d.1 d.2)
theorem hs_setD (i : Nat) (he : PE X e (tD (pw X) (vis r) d)) (k : Hs X rest (At (pw X) W H0 (r.set i (.val d))) E) (hN : X.N.Nodup) (hi : X.N[i]? = some x := by rfl) (hx : Loc X.env.scope x := by first | exact .inl rfl | exact .inr rfl)
    (hs : swapsWith e (some (.Name x pos')) pos.line X.env = pure false := by rfl) (hf : X.fn x = true ∨ X.env.scope.names.lookup x = some .local := by first | exact .inl rfl | exact .inr rfl | assumption) :
    Hs X (.Assign [.Name x pos'] e pos :: rest) (At (pw X) W H0 r) E := hs_set i he (fun d' e => by rw [e]; exact k) hN hi hx hs hf
/-- a new list, from now on being built -/
theorem At.tF {M : MW} {σ : St} {H : Hp} {Q : VK} {Ks : List D → Prop} (a : At M W H0 r σ H) (hi : i < r.length) (q : ∀ p H2 ds, Ks ds → At M W H0 (r.set i (.own ds)) (σ.set i (some (.ref p))) H2 → Q (.ref p) H2) : PD.tF M (vis r) Ks σ H Q := by
  obtain ⟨own, a⟩ := a
  exact ⟨W.adds (OwnS own), a.slots, a.ok', fun p vs H2 ds ks hp e h2 rs => q p H2 ds ks (a.new hi hp (Ext.adds.mp e) ⟨p, vs, rfl, rfl, h2, rs⟩)⟩
theorem hs_setNew (i : Nat) {Ks : List D → Prop} (he : PE X e (tF (pw X) (vis r) Ks)) (k : ∀ ds, Ks ds → Hs X rest (At (pw X) W H0 (r.set i (.own ds))) E) (hr : i < r.length) (hN : X.N.Nodup) (hi : X.N[i]? = some x := by rfl) (hx : Loc X.env.scope x := by first | exact .inl rfl | exact .inr rfl)
    (hs : swapsWith e (some (.Name x pos')) pos.line X.env = pure false := by rfl) (hf : X.fn x = true ∨ X.env.scope.names.lookup x = some .local := by first | exact .inl rfl | exact .inr rfl | assumption) :
    Hs X (.Assign [.Name x pos'] e pos :: rest) (At (pw X) W H0 r) E :=
  hs_cons (M := fun σ H => ∃ d : { d // Ks d }, At (pw X) W H0 (r.set i (.own d.1)) σ H) (ps_set hN hi hx he hs hf) (fun σ H a => a.tF hr fun p H2 ds ks a => ⟨⟨ds, ks⟩, a⟩) (hs_ex fun d => k d.1 d.2)
/-- name = [.. for ..] on one line, the name a local: the list as a datum -/
theorem hs_setLc {α : Type} {elt tg iter : Expr} {ifs : List Expr} {scope : Scope} {own : List (Str × Nat)} {py : Pos} {g : TG} (i : Nat) (xs : List α) (enc : α → D) (u : α → List (Nat × D)) (b : α → Bool) (Kf : α → D → Prop)
    (hc : X.calm = true) (hN : X.N.Nodup) (hi : PI X tg iter (tI (pw X) (vis r) (xs.map enc))) (ok : BlkOk X.N X.env.scope scope own)
    (hg : ∀ (s : Shared) (H : Hp) (C : Addr) (cl : List (Str × Addr)) (fp : List Addr), PG (X.blk s H scope (compEnvC scope cl C X.env) fp) tg g) (gd : ∀ x ∈ xs, GD (pw X) g (enc x) (u x)) (hu : ∀ x ∈ xs, ∀ p ∈ u x, p.1 ∈ own.map (·.2))
    (ht : ∀ x ∈ xs, ∀ (s : Shared) (H : Hp) (C : Addr) (cl : List (Str × Addr)) (fp : List Addr), PTs (X.blk s H scope (compEnvC scope cl C X.env) fp) ifs (tT (pw X) (setsO (u x) (wipeO (vis r) (own.map (·.2)))) (b x)))
    (he : ∀ x ∈ xs, b x = true → ∀ (s : Shared) (H : Hp) (C : Addr) (cl : List (Str × Addr)) (fp : List Addr), PE (X.blk s H scope (compEnvC scope cl C X.env) fp) elt (tN (pw X) (setsO (u x) (wipeO (vis r) (own.map (·.2)))) (Kf x)))
    (hz : xs.length < sizeLine) (hr : i < r.length) (k : ∀ ds, CompK b Kf xs ds → Hs X rest (At (pw X) W H0 (r.set i (.val (.lst ds)))) E)
    (hsw : swapsWith (.ListComp elt [⟨tg, iter, ifs, 0⟩] scope pos) (some (.Name x py)) pos'.line X.env = pure true) (hy : X.N[i]? = some x := by rfl) (hyl : X.env.scope.names.lookup x = some .local := by rfl) (hs : ∀ x, foldedSetIterable iter X.env x = pure x := by intro _; rfl) :
    Hs X (.Assign [.Name x py] (.ListComp elt [⟨tg, iter, ifs, 0⟩] scope pos) pos' :: rest) (At (pw X) W H0 r) E := by
  refine hs_cons (M := fun σ H => ∃ d : { d // CompK b Kf xs d }, At (pw X) W H0 (r.set i (.val (.lst d.1))) σ H) (ps_setLc (g := g) (tt := ttC (pw X) (vis r) xs u b (own.map (·.2))) (te := teC (pw X) (vis r) xs u b Kf (own.map (·.2))) hc hN hy hyl hsw hi ok hg
    (fun s H C cl fp => ⟨fun pins s' σ H' Q I h => let ⟨x, hx, q⟩ := h; (ht x hx s H C cl fp).run pins s' σ H' Q I q⟩) (fun s H C cl fp => ⟨fun pins s' σ H' Q I h => let ⟨x, hx, hb, q⟩ := h; (he x hx hb s H C cl fp).run pins s' σ H' Q I q⟩) hs) (fun σ H a => ?_) (hs_ex fun d => k d.1 d.2)
  refine lc_read xs enc u b Kf gd hu hz σ H _ (a.tF hr fun p H2 ds ks a' => ⟨⟨ds, ks⟩, ?_⟩)
  have q := a'.frz (i := i) (ds := ds) (List.getElem?_set_self hr)
  rw [List.set_set] at q
  exact q
/-- x.append(e): ce is the whole call -/
theorem hs_app {ce : Expr} {ds : List D} (i : Nat) (hce : PE X ce (tBM X.K "list" rAppend (tVar i) (tCons (tN (pw X) (vis r) K) tNil))) (ho : r[i]? = some (.own ds)) (hl : ds.length < sizeLine) (k : ∀ d, K d → Hs X rest (At (pw X) W H0 (r.set i (.own (ds ++ [d])))) E)
    (hs : swapsWith ce none pos.line X.env = pure false := by rfl) : Hs X (.Expr ce pos :: rest) (At (pw X) W H0 r) E := by
  refine hs_cons (M := fun σ H => ∃ d : { d // K d }, At (pw X) W H0 (r.set i (.own (ds ++ [d.1]))) σ H) (ps_expr hce hs) (fun σ H a => ?_) (hs_ex fun d => k d.1 d.2)
  have hi : i < r.length := (List.getElem?_eq_some_iff.mp ho).1
  obtain ⟨own, a⟩ := a
  obtain ⟨p, vs, h1, h2, h3, h4⟩ := a.sl i _ ho
  refine ⟨_, h2, Or.inl ⟨rfl, _, SqL.of h3⟩, W.adds (OwnS own), a.slots, a.ok', fun v H2 d kd e rv => ?_⟩
  have h3' : H2 p = some (.lst vs) := e.keep _ _ (a.nT h1) h3
  have h4' := h4.ext a.ok' e
  have a2 := a.go (Ext.adds.mp e)
  refine ⟨p, vs, v, rfl, rfl, h3', by rw [h4.length]; exact hl, ⟨d, kd⟩, a2.upd hi h1 ⟨p, vs ++ [v], rfl, h2, upd_same, ?_⟩⟩
  exact RepL.car (Car.upd (W := W.adds (OwnS own)) (.inr ⟨i, h1⟩)) _ _ (h4'.append (.one rv))
/-- x.extend(e), e a list -/
theorem hs_extend {ce : Expr} {ds : List D} {Ks : List D → Prop} (i : Nat) (hce : PE X ce (tBM X.K "list" rExtend (tVar i) (tCons (tN (pw X) (vis r) K) tNil))) (ho : r[i]? = some (.own ds)) (hk : ∀ d, K d → ∃ es, d = .lst es ∧ ds.length + es.length ≤ sizeLine ∧ Ks es)
    (k : ∀ es, Ks es → Hs X rest (At (pw X) W H0 (r.set i (.own (ds ++ es)))) E) (hs : swapsWith ce none pos.line X.env = pure false := by rfl) : Hs X (.Expr ce pos :: rest) (At (pw X) W H0 r) E := by
  refine hs_cons (M := fun σ H => ∃ d : { d // Ks d }, At (pw X) W H0 (r.set i (.own (ds ++ d.1))) σ H) (ps_expr hce hs) (fun σ H a => ?_) (hs_ex fun d => k d.1 d.2)
  have hi : i < r.length := (List.getElem?_eq_some_iff.mp ho).1
  obtain ⟨own, a⟩ := a
  obtain ⟨p, vs, h1, h2, h3, h4⟩ := a.sl i _ ho
  refine ⟨_, h2, Or.inl ⟨rfl, _, SqL.of h3⟩, W.adds (OwnS own), a.slots, a.ok', fun v H2 d kd e rv => ?_⟩
  obtain ⟨es, ed, hz, ks⟩ := hk d kd
  subst ed
  obtain ⟨b, us, ev, nb, hb, rb⟩ := rv
  subst ev
  have h3' : H2 p = some (.lst vs) := e.keep _ _ (a.nT h1) h3
  have h4' := h4.ext a.ok' e
  have a2 := a.go (Ext.adds.mp e)
  refine ⟨p, b, vs, us, rfl, rfl, h3', hb, by rw [h4.length, rb.length]; exact hz, ⟨es, ks⟩, a2.upd hi h1 ⟨p, vs ++ us, rfl, h2, upd_same, ?_⟩⟩
  exact RepL.car (Car.upd (W := W.adds (OwnS own)) (.inr ⟨i, h1⟩)) _ _ (h4'.append rb)
/-- an expression whose value is dropped -/
theorem hs_drop (he : PE X e (tN (pw X) (vis r) K)) (k : Hs X rest (At (pw X) W H0 r) E) (hs : swapsWith e none pos.line X.env = pure false := by rfl) : Hs X (.Expr e pos :: rest) (At (pw X) W H0 r) E :=
  hs_cons (ps_expr he hs) (fun σ H a => a.tN fun own v H2 d a kd rv => ⟨own, a⟩) k
/-- return e -/
theorem hs_ret {K' : D → Prop} {N B C : St → Hp → Prop} (he : PE X e (tN (pw X) (vis r) K)) (k : ∀ d, K d → K' d) : Hs X (.Return (some e) pos :: rest) (At (pw X) W H0 r) { nx := N, rt := Rt (pw X) W H0 K', bk := B, ct := C } :=
  hs_cons (M := fun _ _ => False) (ps_ret he) (fun σ H a => a.tN fun own v H2 d a kd rv => ⟨d, k d kd, a.ext, Rep.car Car.back d v rv⟩) (hs_never fun _ _ h => h)
theorem hs_retD {K' : D → Prop} {N B C : St → Hp → Prop} (he : PE X e (tD (pw X) (vis r) d)) (k : K' d) : Hs X (.Return (some e) pos :: rest) (At (pw X) W H0 r) { nx := N, rt := Rt (pw X) W H0 K', bk := B, ct := C } :=
  hs_ret he (fun d' e => by rw [e]; exact k)
theorem hs_frz (i : Nat) {sts : List Stmt} {ds : List D} (ho : r[i]? = some (.own ds)) (k : Hs X sts (At (pw X) W H0 (r.set i (.val (.lst ds)))) E) : Hs X sts (At (pw X) W H0 r) E := hs_pre (fun σ H a => a.frz ho) k
theorem hs_frzD (i : Nat) {sts : List Stmt} {ds : List (NestedKey × D)} (ho : r[i]? = some (.ownD ds)) (k : Hs X sts (At (pw X) W H0 (r.set i (.val (.dct ds)))) E) : Hs X sts (At (pw X) W H0 r) E := hs_pre (fun σ H a => a.frzD ho) k
theorem hs_fgt (i : Nat) {sts : List Stmt} (k : Hs X sts (At (pw X) W H0 (r.set i .none)) E) : Hs X sts (At (pw X) W H0 r) E := hs_pre (fun σ H a => a.drop) k
/-- if: both ways to the same end -/
theorem hs_if {c : Expr} {b : Bool} {s1 s2 : List Stmt} {M : St → Hp → Prop} (hc : PT X c (tT (pw X) (vis r) b)) (h1 : b = true → Hs X s1 (At (pw X) W H0 r) { E with nx := M }) (h2 : b = false → Hs X s2 (At (pw X) W H0 r) { E with nx := M }) (k : Hs X rest M E) : Hs X (.If c s1 s2 pos :: rest) (At (pw X) W H0 r) E := by
  cases b with
  | true => exact hs_cons (M := M) (ps_if hc (pss_hs (ι := Unit) fun _ => h1 rfl) (pss_never (sts := s2))) (fun σ H a => a.tT fun H2 a2 => ⟨(), a2, Le.refl _⟩) k
  | false => exact hs_cons (M := M) (ps_if hc (pss_never (sts := s1)) (pss_hs (ι := Unit) fun _ => h2 rfl)) (fun σ H a => a.tT fun H2 a2 => ⟨(), a2, Le.refl _⟩) k
/-- an if whose way does not come back, or whose test is known -/
theorem hs_ifT {c : Expr} {s1 s2 : List Stmt} {M : St → Hp → Prop} (hc : PT X c (tT (pw X) (vis r) true)) (h1 : Hs X s1 (At (pw X) W H0 r) { E with nx := M }) (k : Hs X rest M E) : Hs X (.If c s1 s2 pos :: rest) (At (pw X) W H0 r) E := hs_if hc (fun _ => h1) (fun h => nomatch h) k
theorem hs_ifF {c : Expr} {s1 : List Stmt} (hc : PT X c (tT (pw X) (vis r) false)) (k : Hs X rest (At (pw X) W H0 r) E) : Hs X (.If c s1 [] pos :: rest) (At (pw X) W H0 r) E := hs_if (M := At (pw X) W H0 r) hc (fun h => nomatch h) (fun _ => hs_nil fun _ _ a => a) k
/-- for: R by the turn; K what the def hands back, B where a break leads -/
theorem hs_forN {tg iter : Expr} {body : List Stmt} {g : TG} {Ki : List D → Prop} {K' : D → Prop} (Ri : List D → Nat → List Slot → Prop) (B : Hp → St → Hp → Prop) (hc : X.calm = true) (hp : PassesOwn (model X.prog X.w) X.A X.env X.xe) (hi : PI X tg iter (tIN (pw X) (vis r) Ki)) (hg : PG X tg g)
    (h0 : ∀ ds, Ki ds → Ri ds 0 r) (u : D → List (Nat × D)) (gd : ∀ ds d, Ki ds → d ∈ ds → GD (pw X) g d (u d))
    (hb : ∀ H1 ds i d r', Ki ds → ds[i]? = some d → Ri ds i r' → Hs X body (At (pw X) W H1 (setsS (u d) r')) { nx := fun σ H => ∃ r', Ri ds (i + 1) r' ∧ At (pw X) W H1 r' σ H, ct := fun σ H => ∃ r', Ri ds (i + 1) r' ∧ At (pw X) W H1 r' σ H, bk := B H1, rt := Rt (pw X) W H1 K' })
    (hrt : ∀ v H, Rt (pw X) W H0 K' v H → E.rt v H) (hB : ∀ H1 σ H, Ext W H0 H1 → W.ok H0 → B H1 σ H → B H0 σ H) (k : ∀ ds r', Ki ds → Ri ds ds.length r' → Hs X rest (At (pw X) W H0 r') E) (kB : Hs X rest (B H0) E)
    (hs : ∀ x, foldedSetIterable iter X.env x = pure x := by intro _; rfl) : Hs X (.For tg iter body [] pos :: rest) (At (pw X) W H0 r) E := by
  refine hs_cons (M := fun σ H => (∃ z : { z : List D × List Slot // Ki z.1 ∧ Ri z.1 z.1.length z.2 }, At (pw X) W H0 z.1.2 σ H) ∨ B H0 σ H) (ps_for hp hc hi hg
    (pss_hs (ι := { z : Hp × List D × Nat × D × List Slot // Ki z.2.1 ∧ z.2.1[z.2.2.1]? = some z.2.2.2.1 ∧ Ri z.2.1 z.2.2.1 z.2.2.2.2 })
      (P := fun z => At (pw X) W z.1.1 (setsS (u z.1.2.2.2.1) z.1.2.2.2.2)) (E := fun z => { nx := fun σ H => ∃ r', Ri z.1.2.1 (z.1.2.2.1 + 1) r' ∧ At (pw X) W z.1.1 r' σ H, ct := fun σ H => ∃ r', Ri z.1.2.1 (z.1.2.2.1 + 1) r' ∧ At (pw X) W z.1.1 r' σ H, bk := B z.1.1, rt := Rt (pw X) W z.1.1 K' })
      fun z => hb z.1.1 z.1.2.1 z.1.2.2.1 z.1.2.2.2.1 z.1.2.2.2.2 z.2.1 z.2.2.1 z.2.2.2) hs) (fun σ H a => ?_) ?_
  rotate_left
  · refine ⟨fun pins s σ H I q => ?_⟩
    rcases q with q | q
    · exact (hs_ex (ι := { z : List D × List Slot // Ki z.1 ∧ Ri z.1 z.1.length z.2 }) (P := fun z => At (pw X) W H0 z.1.2) (fun z => k z.1.1 z.1.2 z.2.1 z.2.2)).run pins s σ H I q
    · exact kB.run pins s σ H I q
  obtain ⟨own, a⟩ := a
  refine ⟨W.adds (OwnS own), a.slots, a.ok', fun J H1 ds kd e1 it => ?_⟩
  have a1 := a.go (Ext.adds.mp e1)
  have ok0 := a1.ok
  have e01 : Ext W H0 (lessO H1 own r.length) := a1.ext0
  generalize hL : lessO H1 own r.length = L at e01
  have aL : At (pw X) W L r σ H1 := by rw [← hL]; exact ⟨own, a1.up⟩
  have okL : W.ok L := ok0.ext e01
  -- what stands: all that stood at H1 but what is being built
  have stay : ∀ {r' : List Slot} {σ' : St} {H' : Hp} {own' : Nat → Option Addr}, AtO (pw X) W L r' σ' H' own' → Stay (W.adds (OwnS own)) (W.adds (OwnS own')) H1 H' := fun {r' σ' H' own'} a' => by
    refine ⟨⟨fun p o n h => ?_, fun _ t => t⟩, a'.ok'.tr⟩
    have nO : ∀ i, i < r.length → own i ≠ some p := fun i _ e => n (.inr ⟨i, e⟩)
    have hl : L p = some o := by rw [← hL, lessO_keep nO]; exact h
    refine ⟨a'.ext.keep p o (fun t => n (.inl (ok0.sub p t))) hl, fun z => ?_⟩
    rcases z with z | ⟨j, z⟩
    · exact n (.inl z)
    · rw [a'.fresh j p z] at hl; cases hl
  refine ⟨fun i m σ H => m = ds.length - i ∧ i ≤ ds.length ∧ ∃ r', Ri ds i r' ∧ At (pw X) W L r' σ H, ⟨ds.length, by simp, Nat.zero_le _, r, h0 ds kd, aL⟩, ?_⟩
  rintro i m σ2 H2 ⟨rfl, hle, r', hR, own', a'⟩
  by_cases hlt : i < ds.length
  · refine .inr ⟨it.go _ i H2 (stay a') hlt, fun σ H => ∃ r', Ri ds (i + 1) r' ∧ At (pw X) W L r' σ H, fun σ' H' ⟨r2, h1, h2⟩ => ⟨ds.length - (i + 1), by omega, rfl, hlt, r2, h1, h2⟩, fun x H3 y => ?_⟩
    obtain ⟨sm, d, hd, rx⟩ := it.yld _ i H2 x H3 (stay a') hlt y
    have a3 := a'.go (.same sm)
    refine gd ds d kd (List.mem_of_getElem? hd) (W.adds (OwnS own')) σ2 H3 x _ rx fun σ3 s3 => ?_
    refine ⟨⟨(L, ds, i, d, r'), kd, hd, hR⟩, At.sets a3 s3, ⟨fun _ _ h => h, fun v H h => ?_, fun σ H h => ?_, fun _ _ h => h⟩⟩
    · exact hrt v H (let ⟨d, h1, h2, h3⟩ := h; ⟨d, h1, e01.trans h2, h3⟩)
    · exact .inr (hB L σ H e01 ok0 h)
  · have e : i = ds.length := by omega
    subst e
    exact .inl ⟨it.stop _ H2 (stay a'), .inl ⟨⟨(ds, r'), kd, hR⟩, At.base ⟨own', a'⟩ ok0 e01⟩⟩
/-- for, no break, the slots told by the turn -/
theorem hs_for {tg iter : Expr} {body : List Stmt} {g : TG} {ds : List D} {K' : D → Prop} (Ri : Nat → List Slot → Prop) (hc : X.calm = true) (hp : PassesOwn (model X.prog X.w) X.A X.env X.xe) (hi : PI X tg iter (tI (pw X) (vis r) ds)) (hg : PG X tg g)
    (h0 : Ri 0 r) (u : D → List (Nat × D)) (gd : ∀ d, d ∈ ds → GD (pw X) g d (u d))
    (hb : ∀ H1 i d r', ds[i]? = some d → Ri i r' → Hs X body (At (pw X) W H1 (setsS (u d) r')) { nx := fun σ H => ∃ r', Ri (i + 1) r' ∧ At (pw X) W H1 r' σ H, ct := fun σ H => ∃ r', Ri (i + 1) r' ∧ At (pw X) W H1 r' σ H, rt := Rt (pw X) W H1 K' })
    (hrt : ∀ v H, Rt (pw X) W H0 K' v H → E.rt v H) (k : ∀ r', Ri ds.length r' → Hs X rest (At (pw X) W H0 r') E)
    (hs : ∀ x, foldedSetIterable iter X.env x = pure x := by intro _; rfl) : Hs X (.For tg iter body [] pos :: rest) (At (pw X) W H0 r) E :=
  hs_forN (Ki := fun x => x = ds) (fun _ => Ri) (fun _ _ _ => False) hc hp hi hg (fun _ _ => h0) u (fun ds' d e h => gd d (by rw [← e]; exact h)) (fun H1 ds' i d r' e h1 h2 => hb H1 i d r' (by rw [← e]; exact h1) h2) hrt (fun _ _ _ _ _ h => h) (fun ds' r' e h => k r' (by rw [← e]; exact h)) (hs_never fun _ _ h => h) hs
end
end PD

set_option Elab.async false
set_option linter.all false
set_option maxRecDepth 100000
set_option maxHeartbeats 2000000
/-! Pd6: calls over data: built-ins, the program's own defs and methods; slices, list and tuple operators. -/
namespace PD
open PySem L2 PySem.Spec PyProof.Rows

def C1 (M : MW) (rr : List V → Hp → VK → Prop) (ds : List D) (K : D → Prop) : Prop := ∀ (W : Wd) (H : Hp) (vs : List V) (Q : VK), W.ok H → RepL M W H ds vs → (∀ v H2 d, K d → Ext W H H2 → Rep M W H2 d v → Q v H2) → rr vs H Q
section
variable {X : Cx} {M : MW} {r : List (Option D)} {K : D → Prop} {Ka : List D → Prop} {rr : List V → Hp → VK → Prop} {e a b tg : Expr} {es : List Expr} {pos p : Pos} {ds : List D} {d : D} {x : Str} {id T : String}
theorem tCB_N (c : ∀ ds, Ka ds → C1 M rr ds K) : ∀ σ H Q, tN M r K σ H Q → tCB rr (tAN M r Ka) σ H Q := fun σ H Q ⟨W, hs, ok, q⟩ => ⟨W, hs, ok, fun vs H1 ds ka e1 rs =>
  c ds ka W H1 vs Q (ok.ext e1) rs fun v H2 d kd e2 rv => q v H2 d kd (e1.trans e2) rv⟩
theorem ed_callBN (hc : CallR X (.builtin id) rr) (c : ∀ ds, Ka ds → C1 M rr ds K) (hm : X.mg x = none) (hv : bootBuiltins x = some (.builtin id)) (ha : PA X (e :: es) (tAN M r Ka)) (hg : Gl X x := by rfl) (hn : x ≠ "__name__" := by decide) (hdb : (x == ("__debug__" : Str)) = false := by decide)
    (he : starEach (e :: es) X.env = (false, eval e X.env) :: starEach es X.env := by rfl) (hpl : (backTo pos (starEach es X.env)).any (·.1) = false := by rfl) : PE X (.Call (.Name x p) (e :: es) [] pos) (tN M r K) :=
  (pe_callB hc hg hm hv ha hn hdb he hpl).wk (tCB_N c)
theorem ed_callB (hc : CallR X (.builtin id) rr) (c : C1 M rr ds K) (hm : X.mg x = none) (hv : bootBuiltins x = some (.builtin id)) (ha : PA X (e :: es) (tAD M r ds)) (hg : Gl X x := by rfl) (hn : x ≠ "__name__" := by decide) (hdb : (x == ("__debug__" : Str)) = false := by decide)
    (he : starEach (e :: es) X.env = (false, eval e X.env) :: starEach es X.env := by rfl) (hpl : (backTo pos (starEach es X.env)).any (·.1) = false := by rfl) : PE X (.Call (.Name x p) (e :: es) [] pos) (tN M r K) :=
  ed_callBN hc (fun ds' e => by rw [e]; exact c) hm hv ha hg hn hdb he hpl
theorem ed_callTyN (hc : CallR X (.type T) rr) (c : ∀ ds, Ka ds → C1 M rr ds K) (hm : X.mg x = none) (hv : bootBuiltins x = some (.type T)) (ha : PA X (e :: es) (tAN M r Ka)) (hg : Gl X x := by rfl) (hn : x ≠ "__name__" := by decide) (hdb : (x == ("__debug__" : Str)) = false := by decide)
    (he : starEach (e :: es) X.env = (false, eval e X.env) :: starEach es X.env := by rfl) (hpl : (backTo pos (starEach es X.env)).any (·.1) = false := by rfl) : PE X (.Call (.Name x p) (e :: es) [] pos) (tN M r K) :=
  (pe_callTy hc hg hm hv ha hn hdb he hpl).wk (tCB_N c)
theorem ed_callTy (hc : CallR X (.type T) rr) (c : C1 M rr ds K) (hm : X.mg x = none) (hv : bootBuiltins x = some (.type T)) (ha : PA X (e :: es) (tAD M r ds)) (hg : Gl X x := by rfl) (hn : x ≠ "__name__" := by decide) (hdb : (x == ("__debug__" : Str)) = false := by decide)
    (he : starEach (e :: es) X.env = (false, eval e X.env) :: starEach es X.env := by rfl) (hpl : (backTo pos (starEach es X.env)).any (·.1) = false := by rfl) : PE X (.Call (.Name x p) (e :: es) [] pos) (tN M r K) :=
  ed_callTyN hc (fun ds' e => by rw [e]; exact c) hm hv ha hg hn hdb he hpl
theorem RepL.one_of {W : Wd} {H : Hp} {vs : List V} (h : RepL M W H [d] vs) : ∃ v, vs = [v] ∧ Rep M W H d v := by
  obtain ⟨v, r, e, h1, h2⟩ := h
  exact ⟨v, by rw [e, show r = [] from h2], h1⟩
theorem RepL.two_of {W : Wd} {H : Hp} {d2 : D} {vs : List V} (h : RepL M W H [d, d2] vs) : ∃ v w, vs = [v, w] ∧ Rep M W H d v ∧ Rep M W H d2 w := by
  obtain ⟨v, r, e, h1, h2⟩ := h
  obtain ⟨w, e2, h3⟩ := RepL.one_of h2
  exact ⟨v, w, by rw [e, e2], h1, h3⟩
/-! len -/
abbrev rLenQ (K' : PySem.W.Frag) : List V → Hp → VK → Prop := fun xs H Q => ∃ p ys, xs = [.ref p] ∧ (SqL K' H p ys ∨ SqT K' H p ys) ∧ Q (.int ys.length) H
theorem c1_lenL {K' : PySem.W.Frag} : C1 M (rLenQ K') [.lst ds] (fun x => x = .int (ds.length : Nat)) := fun W H vs Q ok rs q => by
  obtain ⟨v, e, a, us, ev, n, h1, h2⟩ := rs.one_of
  subst ev
  exact ⟨a, us, e, .inl (.of h1), by rw [h2.length]; exact q _ H _ rfl (.refl _ _) rfl⟩
theorem c1_lenT {K' : PySem.W.Frag} : C1 M (rLenQ K') [.tup ds] (fun x => x = .int (ds.length : Nat)) := fun W H vs Q ok rs q => by
  obtain ⟨v, e, a, us, ev, n, h1, h2⟩ := rs.one_of
  subst ev
  exact ⟨a, us, e, .inr (.of h1), by rw [h2.length]; exact q _ H _ rfl (.refl _ _) rfl⟩
theorem ed_lenL (hm : X.mg "len" = none) (ha : PA X [e] (tAD M r [.lst ds])) (hg : Gl X "len" := by rfl) (he : starEach [e] X.env = (false, eval e X.env) :: starEach [] X.env := by rfl) (hpl : (backTo pos (starEach [] X.env)).any (·.1) = false := by rfl) :
    PE X (.Call (.Name "len" p) [e] [] pos) (tD M r (.int (ds.length : Nat))) := ed_callB call_len_seq c1_lenL hm boot_len ha hg (by decide) (by decide) he hpl
theorem ed_lenT (hm : X.mg "len" = none) (ha : PA X [e] (tAD M r [.tup ds])) (hg : Gl X "len" := by rfl) (he : starEach [e] X.env = (false, eval e X.env) :: starEach [] X.env := by rfl) (hpl : (backTo pos (starEach [] X.env)).any (·.1) = false := by rfl) :
    PE X (.Call (.Name "len" p) [e] [] pos) (tD M r (.int (ds.length : Nat))) := ed_callB call_len_seq c1_lenT hm boot_len ha hg (by decide) (by decide) he hpl
/-! min, max, sum, all, int -/
theorem c1_min2 {i j : Int} : C1 M (fun xs H Q => ∃ i j, xs = [V.int i, .int j] ∧ Q (.int (if j < i then j else i)) H) [.int i, .int j] (fun x => x = .int (if j < i then j else i)) := fun W H vs Q ok rs q => by
  obtain ⟨v, w, e, h1, h2⟩ := rs.two_of
  rw [show v = V.int i from h1, show w = V.int j from h2] at e
  exact ⟨i, j, e, q _ H _ rfl (.refl _ _) rfl⟩
theorem c1_max2 {i j : Int} : C1 M (fun xs H Q => ∃ i j, xs = [V.int i, .int j] ∧ Q (.int (if j > i then j else i)) H) [.int i, .int j] (fun x => x = .int (if j > i then j else i)) := fun W H vs Q ok rs q => by
  obtain ⟨v, w, e, h1, h2⟩ := rs.two_of
  rw [show v = V.int i from h1, show w = V.int j from h2] at e
  exact ⟨i, j, e, q _ H _ rfl (.refl _ _) rfl⟩
theorem c1_sum {K' : PySem.W.Frag} {ns : List Int} : C1 M (rSum K') [.lst (ns.map D.int)] (fun x => x = .int ns.sum) := fun W H vs Q ok rs q => by
  obtain ⟨v, e, a, us, ev, n, h1, h2⟩ := rs.one_of
  subst ev
  rw [h2.ints] at h1
  exact ⟨a, ns, e, .of h1, q _ H _ rfl (.refl _ _) rfl⟩
theorem c1_minL {K' : PySem.W.Frag} {ns : List Int} {m : Int} (h1 : m ∈ ns) (h2 : ∀ y ∈ ns, m ≤ y) : C1 M (rMin K') [.lst (ns.map D.int)] (fun x => x = .int m) := fun W H vs Q ok rs q => by
  obtain ⟨v, e, a, us, ev, n, h3, h4⟩ := rs.one_of
  subst ev
  rw [h4.ints] at h3
  refine ⟨a, ns, e, .of h3, List.length_pos_of_mem h1, fun m' g1 g2 => ?_⟩
  have := h2 m' g1
  have := g2 m h1
  rw [show m' = m by omega]
  exact q _ H _ rfl (.refl _ _) rfl
theorem c1_maxL {K' : PySem.W.Frag} {ns : List Int} {m : Int} (h1 : m ∈ ns) (h2 : ∀ y ∈ ns, y ≤ m) : C1 M (rMax K') [.lst (ns.map D.int)] (fun x => x = .int m) := fun W H vs Q ok rs q => by
  obtain ⟨v, e, a, us, ev, n, h3, h4⟩ := rs.one_of
  subst ev
  rw [h4.ints] at h3
  refine ⟨a, ns, e, .of h3, List.length_pos_of_mem h1, fun m' g1 g2 => ?_⟩
  have := h2 m' g1
  have := g2 m h1
  rw [show m' = m by omega]
  exact q _ H _ rfl (.refl _ _) rfl
theorem c1_all {K' : PySem.W.Frag} {bs : List Bool} : C1 M (rAll K') [.lst (bs.map D.bl)] (fun x => x = .bl (bs.all fun b => b)) := fun W H vs Q ok rs q => by
  obtain ⟨v, e, a, us, ev, n, h1, h2⟩ := rs.one_of
  subst ev
  rw [h2.bls] at h1
  exact ⟨a, bs, e, .of h1, q _ H _ rfl (.refl _ _) rfl⟩
theorem c1_intB {k : Bool} : C1 M (fun xs H Q => (∃ i, xs = [V.int i] ∧ Q (.int i) H) ∨ ∃ k, xs = [V.bl k] ∧ Q (.int (if k then 1 else 0)) H) [.bl k] (fun x => x = .int (if k then 1 else 0)) := fun W H vs Q ok rs q => by
  obtain ⟨v, e, h⟩ := rs.one_of
  rw [show v = V.bl k from h] at e
  exact .inr ⟨k, e, q _ H _ rfl (.refl _ _) rfl⟩
theorem c1_tuple {K' : PySem.W.Frag} : C1 M (fun xs H Q => ∃ p ys, xs = [V.ref p] ∧ ((SqL K' H p ys ∧ ∀ l, H l = none → Q (.ref l) (upd H l (.tup ys))) ∨ (SqT K' H p ys ∧ Q (.ref p) H))) [.lst ds] (fun x => x = .tup ds) := fun W H vs Q ok rs q => by
  obtain ⟨v, e, a, us, ev, n, h1, h2⟩ := rs.one_of
  subst ev
  exact ⟨a, us, e, .inl ⟨.of h1, fun l hl => q _ _ _ rfl (.new hl) ⟨l, us, rfl, ok.nS hl, upd_same, h2.ext ok (.new hl)⟩⟩⟩
/-! isinstance -/
def dTy : D → Option String
  | .non => some "NoneType" | .bl _ => some "bool" | .int _ => some "int" | .str _ => some "str" | .tup _ => some "tuple" | .lst _ => some "list" | _ => none
theorem dTy_X {K' : PySem.W.Frag} {W : Wd} {H : Hp} {t : String} : ∀ {d : D} {v : V}, Rep M W H d v → dTy d = some t → TyX K' H v (.type t)
  | .non, v, h, e => by cases e; rw [show v = V.non from h]; exact .base .non
  | .bl b, v, h, e => by cases e; rw [show v = V.bl b from h]; exact .base (.bl b)
  | .int b, v, h, e => by cases e; rw [show v = V.int b from h]; exact .base (.int b)
  | .str b, v, h, e => by cases e; rw [show v = V.str b from h]; exact .base (.str b)
  | .tup _, v, h, e => by cases e; obtain ⟨a, vs, e, _, h1, _⟩ := h; rw [e]; exact .base (.tup h1)
  | .lst _, v, h, e => by cases e; obtain ⟨a, vs, e, _, h1, _⟩ := h; rw [e]; exact .base (.lst h1)
  | .dct _, v, h, e => nomatch e
  | .ins _ _, v, h, e => nomatch e
  | .src, v, h, e => nomatch e
  | .dki _, v, h, e => nomatch e
  | .ktp _, v, h, e => nomatch e
  | .flst _, v, h, e => nomatch e
  | .adr _, v, h, e => nomatch e
/-- isinstance(a, T), T a built-in type -/
theorem ed_isi {y : Str} {py : Pos} {T t : String} {k : Bool} (hm : X.mg "isinstance" = none) (ha : PE X a (tD M r d)) (hmT : X.mg y = none) (hvT : bootBuiltins y = some (.type T)) (ht : dTy d = some t) (hk : kitB t T = some k) (hg : Gl X "isinstance" := by rfl) (hgT : Gl X y := by rfl) (hnT : y ≠ "__name__" := by decide) (hdT : (y == ("__debug__" : Str)) = false := by decide)
    (he : starEach [a, .Name y py] X.env = (false, eval a X.env) :: starEach [.Name y py] X.env := by rfl) (he2 : starEach [.Name y py] X.env = (false, eval (.Name y py) X.env) :: starEach [] X.env := by rfl) (hpl : (backTo pos (starEach [.Name y py] X.env)).any (·.1) = false := by rfl) :
    PE X (.Call (.Name "isinstance" p) [a, .Name y py] [] pos) (tD M r (.bl k)) :=
  (pe_callB call_isi hg hm PyProof.Rows.boot_isinstance (pa_cons ha (pa_cons (pe_bltn (v := .ty T) hgT hmT hvT rfl hnT hdT) pa_nil he2) he) (by decide) (by decide) he hpl).wk fun σ H Q ⟨W, hs, ok, q⟩ => ⟨W, hs, ok, fun v H1 dx kx e1 rv => by
    subst kx
    exact ⟨v, .ty T, .type t, .type T, k, rfl, .ty T, dTy_X rv ht, kit_ty hk, q _ H1 _ rfl e1 rfl⟩⟩
/-- isinstance(a, (T1, T2)) -/
theorem ed_isi2 {y y2 : Str} {py py2 : Pos} {x1 : Nat} {pt : Pos} {T T2 t : String} {k k2 : Bool} (hm : X.mg "isinstance" = none) (ha : PE X a (tD M r d)) (hmT : X.mg y = none) (hvT : bootBuiltins y = some (.type T)) (hmT2 : X.mg y2 = none) (hvT2 : bootBuiltins y2 = some (.type T2)) (ht : dTy d = some t) (hk : kitB t T = some k) (hk2 : kitB t T2 = some k2)
    (hg : Gl X "isinstance" := by rfl) (hgT : Gl X y := by rfl) (hgT2 : Gl X y2 := by rfl) (hnT : y ≠ "__name__" := by decide) (hdT : (y == ("__debug__" : Str)) = false := by decide) (hnT2 : y2 ≠ "__name__" := by decide) (hdT2 : (y2 == ("__debug__" : Str)) = false := by decide)
    (hi : starEach [.Name y py, .Name y2 py2] X.env = (false, eval (.Name y py) X.env) :: starEach [.Name y2 py2] X.env := by rfl) (hi2 : starEach [.Name y2 py2] X.env = (false, eval (.Name y2 py2) X.env) :: starEach [] X.env := by rfl)
    (he : starEach [a, .Tuple [.Name y py, .Name y2 py2] x1 pt] X.env = (false, eval a X.env) :: starEach [.Tuple [.Name y py, .Name y2 py2] x1 pt] X.env := by rfl) (he2 : starEach [.Tuple [.Name y py, .Name y2 py2] x1 pt] X.env = (false, eval (.Tuple [.Name y py, .Name y2 py2] x1 pt) X.env) :: starEach [] X.env := by rfl)
    (hpl : (backTo pos (starEach [.Tuple [.Name y py, .Name y2 py2] x1 pt] X.env)).any (·.1) = false := by rfl) :
    PE X (.Call (.Name "isinstance" p) [a, .Tuple [.Name y py, .Name y2 py2] x1 pt] [] pos) (tD M r (.bl (k || k2))) :=
  (pe_callB call_isiT hg hm PyProof.Rows.boot_isinstance (pa_cons ha (pa_cons (pe_tup (pa_cons (pe_bltn (v := .ty T) hgT hmT hvT rfl hnT hdT) (pa_cons (pe_bltn (v := .ty T2) hgT2 hmT2 hvT2 rfl hnT2 hdT2) pa_nil hi2) hi)) pa_nil he2) he) (by decide) (by decide) he hpl).wk fun σ H Q ⟨W, hs, ok, q⟩ => ⟨W, hs, ok, fun v H1 dx kx e1 rv => by
    subst kx
    refine ⟨by show 2 ≤ sizeLine; decide, fun tp htp => ?_⟩
    have e2 : Ext W H1 (upd H1 tp (.tup [.ty T, .ty T2])) := .new htp
    refine ⟨v, tp, [.ty T, .ty T2], .type t, [.type T, .type T2], k || k2, rfl, upd_same, .cons (.ty T) (.cons (.ty T2) .nil), dTy_X (rv.ext (ok.ext e1) e2) ht, ?_, q _ _ _ rfl (e1.trans e2) rfl⟩
    refine kitAny_cons (kit_ty hk) (fun h => ?_) fun h => by rw [h]; rfl
    refine kitAny_cons (kit_ty hk2) (fun h2 => ?_) fun h2 => by rw [h2]; simp
    rw [h, h2]
    exact kitAny_nil⟩
/-! ### list and tuple operators, slices -/
theorem ed_cat {es' : List D} (ha : PE X a (tD M r (.lst ds))) (hb : PE X b (tD M r (.lst es'))) (hz : ds.length + es'.length ≤ sizeLine) : PE X (.BinOp a .Add b pos) (tF M r (fun x => x = ds ++ es')) :=
  (pe_op op_cat ha hb).wk fun σ H Q ⟨W, hs, ok, q⟩ => ⟨W, hs, ok, fun v H1 dx kx e1 rv => ⟨W, hs.ext ok e1, ok.ext e1, fun w H2 dy ky e2 rw' => by
    subst kx; subst ky
    have rv2 := rv.ext (ok.ext e1) e2
    obtain ⟨a, us, ev, n, h1, h2⟩ := rv2
    obtain ⟨b, ws, ew, n', h1', h2'⟩ := rw'
    refine ⟨a, b, us, ws, ev, ew, h1, h1', by rw [h2.length, h2'.length]; exact hz, fun p hp => ?_⟩
    exact q p _ _ _ rfl ((e1.trans e2).free ok hp) ((e1.trans e2).trans (.new hp)) upd_same (RepL.car ((Car.new hp).trans (Car.upd (W := W.add p) (.inr rfl))) _ _ (h2.append h2'))⟩⟩
theorem ed_repL {k : Int} (ha : PE X a (tD M r (.lst ds))) (hb : PE X b (tD M r (.int k))) (hk : -(2 ^ 63) ≤ k ∧ k < 2 ^ 63) (hz : ds.length * k.toNat ≤ sizeLine) : PE X (.BinOp a .Mult b pos) (tF M r (fun x => x = (List.replicate k.toNat ds).flatten)) :=
  (pe_op op_rep ha hb).wk fun σ H Q ⟨W, hs, ok, q⟩ => ⟨W, hs, ok, fun v H1 dx kx e1 rv => ⟨W, hs.ext ok e1, ok.ext e1, fun w H2 dy ky e2 rw' => by
    subst kx; subst ky
    have rv2 := rv.ext (ok.ext e1) e2
    obtain ⟨a, us, ev, n, h1, h2⟩ := rv2
    refine ⟨a, k, us, ev, rw', h1, hk.1, hk.2, by rw [h2.length]; exact hz, fun p hp => ?_⟩
    exact q p _ _ _ rfl ((e1.trans e2).free ok hp) ((e1.trans e2).trans (.new hp)) upd_same (RepL.car ((Car.new hp).trans (Car.upd (W := W.add p) (.inr rfl))) _ _ (h2.rep _))⟩⟩
/-- t + u of tuples -/
theorem ed_catT {es' : List D} (ha : PE X a (tD M r (.tup ds))) (hb : PE X b (tD M r (.tup es'))) (hz : ds.length + es'.length ≤ sizeLine) : PE X (.BinOp a .Add b pos) (tD M r (.tup (ds ++ es'))) :=
  ed_op op_catA ha hb fun W H x y Q ok rx ry q => by
    obtain ⟨a, us, ev, n, h1, h2⟩ := rx
    obtain ⟨b, ws, ew, n', h1', h2'⟩ := ry
    refine ⟨a, b, us, ws, ev, ew, .of h1, .of h1', by rw [h2.length, h2'.length]; exact hz, fun e => ?_, fun e1 e2 => ?_, fun _ _ p hp => ?_⟩
    · have : ds = [] := by
        have := h2.length
        rw [e] at this
        exact List.length_eq_zero_iff.mp this.symm
      subst this
      exact q _ H _ rfl (.refl _ _) ⟨b, ws, rfl, n', h1', h2'⟩
    · have : es' = [] := by
        have := h2'.length
        rw [e2] at this
        exact List.length_eq_zero_iff.mp this.symm
      subst this
      rw [List.append_nil] at q
      exact q _ H _ rfl (.refl _ _) ⟨a, us, rfl, n, h1, h2⟩
    · exact q _ _ _ rfl (.new hp) ⟨p, _, rfl, ok.nS hp, upd_same, (h2.append h2').ext ok (.new hp)⟩
def cutD (ds : List D) (lo hi : Option Int) : List D := (ds.drop (HT.sIx ds.length 0 lo)).take (HT.sIx ds.length ds.length hi - HT.sIx ds.length 0 lo)
theorem RepL.cut {W : Wd} {H : Hp} {vs : List V} {lo hi : Option Int} (h : RepL M W H ds vs) : RepL M W H (cutD ds lo hi) (cutV vs lo hi) := by
  unfold cutD cutV
  rw [h.length]
  exact (h.drop _).take _
def tPN (M : MW) (r : List (Option D)) (o : Option Int) : TO := fun σ H Q => ∃ W, Slots M W H r σ ∧ W.ok H ∧ ∀ H2, Ext W H H2 → Q o H2
theorem _root_.L2.PO.wk {e : Option Expr} {t t' : TO} (h : PO X e t) (w : ∀ σ H Q, t' σ H Q → t σ H Q) : PO X e t' := ⟨fun pins s σ H Q I q => h.run pins s σ H Q I (w σ H Q q)⟩
theorem eo_none : PO X none (tPN M r none) := po_none.wk fun σ H Q ⟨W, hs, ok, q⟩ => q H (.refl _ _)
theorem eo_some {i : Int} (h : PE X e (tD M r (.int i))) : PO X (some e) (tPN M r (some i)) := (po_some h).wk fun σ H Q ⟨W, hs, ok, q⟩ => ⟨W, hs, ok, fun v H1 d kd e1 rv => by subst kd; exact ⟨i, rv, q H1 e1⟩⟩
theorem ed_sliceL {lo hi : Option Expr} {l h : Option Int} {p2 : Pos} (ha : PE X e (tD M r (.lst ds))) (hl : PO X lo (tPN M r l)) (hh : PO X hi (tPN M r h)) : PE X (.Subscript e (.Slice lo hi none p2) pos) (tF M r (fun x => x = cutD ds l h)) :=
  (pe_slice sl_list ha hl hh).wk fun σ H Q ⟨W, hs, ok, q⟩ => ⟨W, hs, ok, fun v H1 dx kx e1 rv => ⟨W, hs.ext ok e1, ok.ext e1, fun H2 e2 => ⟨W, (hs.ext ok e1).ext (ok.ext e1) e2, (ok.ext e1).ext e2, fun H3 e3 => by
    subst kx
    obtain ⟨a, us, ev, n, h1, h2⟩ := (rv.ext (ok.ext e1) e2).ext ((ok.ext e1).ext e2) e3
    have e123 := (e1.trans e2).trans e3
    exact ⟨a, us, ev, .of h1, fun p hp => q p _ _ _ rfl (e123.free ok hp) (e123.trans (.new hp)) upd_same (RepL.car ((Car.new hp).trans (Car.upd (W := W.add p) (.inr rfl))) _ _ h2.cut)⟩⟩⟩⟩
theorem ed_sliceF {lo hi : Option Expr} {l h : Option Int} {p2 : Pos} (ha : PE X e (tD M r (.flst ds))) (hl : PO X lo (tPN M r l)) (hh : PO X hi (tPN M r h)) : PE X (.Subscript e (.Slice lo hi none p2) pos) (tF M r (fun x => x = cutD ds l h)) :=
  (pe_slice sl_list ha hl hh).wk fun σ H Q ⟨W, hs, ok, q⟩ => ⟨W, hs, ok, fun v H1 dx kx e1 rv => ⟨W, hs.ext ok e1, ok.ext e1, fun H2 e2 => ⟨W, (hs.ext ok e1).ext (ok.ext e1) e2, (ok.ext e1).ext e2, fun H3 e3 => by
    subst kx
    obtain ⟨a, o, us, ev, n, h1, h2⟩ := (rv.ext (ok.ext e1) e2).ext ((ok.ext e1).ext e2) e3
    have e123 := (e1.trans e2).trans e3
    exact ⟨a, us, ev, .inl (.inr ⟨o, h1⟩), fun p hp => q p _ _ _ rfl (e123.free ok hp) (e123.trans (.new hp)) upd_same (RepL.car ((Car.new hp).trans (Car.upd (W := W.add p) (.inr rfl))) _ _ h2.cut)⟩⟩⟩⟩
theorem ed_sliceT {lo hi : Option Expr} {l h : Option Int} {p2 : Pos} (ha : PE X e (tD M r (.tup ds))) (hl : PO X lo (tPN M r l)) (hh : PO X hi (tPN M r h)) : PE X (.Subscript e (.Slice lo hi none p2) pos) (tD M r (.tup (cutD ds l h))) :=
  (pe_slice sl_tupA ha hl hh).wk fun σ H Q ⟨W, hs, ok, q⟩ => ⟨W, hs, ok, fun v H1 dx kx e1 rv => ⟨W, hs.ext ok e1, ok.ext e1, fun H2 e2 => ⟨W, (hs.ext ok e1).ext (ok.ext e1) e2, (ok.ext e1).ext e2, fun H3 e3 => by
    subst kx
    obtain ⟨a, us, ev, n, h1, h2⟩ := (rv.ext (ok.ext e1) e2).ext ((ok.ext e1).ext e2) e3
    have e123 := (e1.trans e2).trans e3
    refine ⟨a, us, ev, .of h1, fun hw => ?_, fun _ p hp => q _ _ _ rfl (e123.trans (.new hp)) ⟨p, _, rfl, (ok.ext e123).nS hp, upd_same, h2.cut.ext (ok.ext e123) (.new hp)⟩⟩
    have ec : cutV us l h = us := by
      unfold cutV
      rw [hw.1, hw.2]
      simp
    have h3 := h2.cut (lo := l) (hi := h)
    rw [ec] at h3
    exact q _ H3 _ rfl e123 ⟨a, us, rfl, n, h1, h3⟩⟩⟩⟩
theorem ed_revSl {k : Nat} {p1 p2 p3 : Pos} (ha : PE X e (tD M r (.lst ds))) : PE X (.Subscript e (.Slice none none (some (.UnaryOp .USub (.Constant (.int 1) k p1) p2)) p3) pos) (tF M r (fun x => x = ds.reverse)) :=
  (pe_revL ha).wk fun σ H Q ⟨W, hs, ok, q⟩ => ⟨W, hs, ok, fun v H1 dx kx e1 rv => by
    subst kx
    obtain ⟨a, us, ev, n, h1, h2⟩ := rv
    exact ⟨a, us, ev, .of h1, fun p hp => q p _ _ _ rfl (e1.free ok hp) (e1.trans (.new hp)) upd_same (RepL.car ((Car.new hp).trans (Car.upd (W := W.add p) (.inr rfl))) _ _ h2.reverse)⟩⟩

/-! ### the program's own defs -/
/-- called with data (args i), pre i: hands back a datum of out i, all that was tracked stands -/
def spO (M : MW) {ι : Type} (args : ι → List D) (pre : ι → Prop) (out : ι → D → Prop) : Sp := fun vs H Q _ => ∃ (W : Wd) (i : ι), W.ok H ∧ pre i ∧ RepL M W H (args i) vs ∧ ∀ v H' d, out i d → Ext W H H' → Rep M W H' d v → Q v H'
structure Cal (P : Program) (w : World) (K : PySem.W.Frag) (mg : Str → Option Value) (base : Heap) (k : Nat) (x : Str) (ps : List Str) (sp : Sp) : Prop where
  ex : ∃ f fd, FnOk P w K mg base CX0 k f fd ps sp ∧ mg x = some (.ref f) ∧ PySem.W.keepIn K (.ref f) = true ∧ Binds K fd ps []
structure MCal (P : Program) (w : World) (K : PySem.W.Frag) (mg : Str → Option Value) (base : Heap) (C : Addr) (k : Nat) (m : Str) (ps : List Str) (sp : Sp) : Prop where
  ex : ∃ f fd, FnOk P w K mg base CX0 k f fd ps sp ∧ Meth K C m f ∧ Binds K fd ps []
theorem ed_callN {ι : Type} {args : ι → List D} {pre : ι → Prop} {out : ι → D → Prop} {k : Nat} {ps : List Str} (C : Cal X.prog X.w X.K X.mg X.base k x ps (spO (pw X) args pre out)) (hr : Room k X.A) (ha : PA X (e :: es) (tAN (pw X) r Ka)) (h : ∀ ds, Ka ds → ∃ i, ds = args i ∧ pre i ∧ ∀ d, out i d → K d)
    (hg : Gl X x := by rfl) (hdb : (x == ("__debug__" : Str)) = false := by decide) (he : starEach (e :: es) X.env = (false, eval e X.env) :: starEach es X.env := by rfl) (hpl : (backTo pos (starEach es X.env)).any (·.1) = false := by rfl) :
    PE X (.Call (.Name x p) (e :: es) [] pos) (tN (pw X) r K) := by
  obtain ⟨f, fd, F, hm, hk, hb⟩ := C.ex
  exact (pe_call F hr hg hm hk hb .nil pass0 ha hdb he hpl).wk fun σ H Q ⟨W, hs, ok, q⟩ => ⟨W, hs, ok, fun vs H1 ds ka e1 rs => by
    obtain ⟨i, ei, hp, ho⟩ := h ds ka
    rw [List.append_nil]
    exact ⟨W, i, ok.ext e1, hp, by rw [← ei]; exact rs, fun v H2 d od e2 rv => q v H2 d (ho d od) (e1.trans e2) rv⟩⟩
theorem ed_call {ι : Type} {args : ι → List D} {pre : ι → Prop} {out : ι → D → Prop} {k : Nat} {ps : List Str} (C : Cal X.prog X.w X.K X.mg X.base k x ps (spO (pw X) args pre out)) (i : ι) (hr : Room k X.A) (ha : PA X (e :: es) (tAD (pw X) r (args i))) (hp : pre i) (ho : ∀ d, out i d → K d)
    (hg : Gl X x := by rfl) (hdb : (x == ("__debug__" : Str)) = false := by decide) (he : starEach (e :: es) X.env = (false, eval e X.env) :: starEach es X.env := by rfl) (hpl : (backTo pos (starEach es X.env)).any (·.1) = false := by rfl) :
    PE X (.Call (.Name x p) (e :: es) [] pos) (tN (pw X) r K) := ed_callN C hr ha (fun ds e => ⟨i, e, hp, ho⟩) hg hdb he hpl
theorem OnlyTab.no {gs : List (Str × V)} (h : OnlyTab gs) {m : Str} (n : m ∉ tabFields) : gs.lookup m = none := h m n
/-- o.m(..) of a table -/
theorem ed_meth {ι : Type} {args : ι → List D} {pre : ι → Prop} {out : ι → D → Prop} {k : Nat} {ps : List Str} {C : Addr} {m : Str} {fs : List (Str × D)} {o : Expr} {apos : Pos} {pl : Sem Bool} (MC : MCal X.prog X.w X.K X.mg X.base C k m ps (spO (pw X) args pre out)) (i : ι) (c : Cls X.K C) (hr : Room k X.A)
    (ho : PE X o (tD (pw X) r (.ins C fs))) (hn : m ∉ tabFields) (ha : PA X (e :: es) (tAD (pw X) r ds)) (hi : args i = .ins C fs :: ds) (hp : pre i) (hk : ∀ d, out i d → K d)
    (hst : starEach (e :: es) X.env = (false, eval e X.env) :: starEach es X.env := by rfl) (hpl : (backTo pos (starEach es X.env)).any (·.1) = false := by rfl)
    (ht : eval (.Call (.Attribute o m apos) (e :: es) [] pos) X.env = (do
      let ov ← eval o X.env
      standAt apos.atName
      let (f, first) ← holding [ov] (getMethod ov m pl)
      callWith pos f first (backTo pos (starEach (e :: es) X.env)) (backToKw pos (keywordEach [] X.env))) := by rfl) :
    PE X (.Call (.Attribute o m apos) (e :: es) [] pos) (tN (pw X) r K) := by
  obtain ⟨f, fd, F, hm, hb⟩ := MC.ex
  exact (pe_meth (pl := pl) ho c hm F hr hb .nil pass0 ha hst hpl ht).wk fun σ H Q ⟨W, hs, ok, q⟩ => ⟨W, hs, ok, fun v H1 dx kx e1 rv => by
    subst kx
    obtain ⟨a, dxx, gs, ev, n, h1, h0, h2⟩ := id rv
    subst ev
    refine ⟨a, dxx, gs, rfl, h1, h0 m hn, W, hs.ext ok e1, ok.ext e1, fun vs H2 ds' kd e2 rs => ?_⟩
    subst kd
    rw [List.append_nil]
    refine ⟨W, i, (ok.ext e1).ext e2, hp, by rw [hi]; exact ⟨_, vs, rfl, rv.ext (ok.ext e1) e2, rs⟩, fun v H3 d od e3 rv' => q v H3 d (hk d od) ((e1.trans e2).trans e3) rv'⟩⟩
end
/-- a def of the text keeps its promise, by its body as a block -/
theorem fn_D {P : Program} {w : World} {K : PySem.W.Frag} {mg : Str → Option Value} {base : Heap} {x qual : Str} {st : Stmt} {f : Addr} {fd : FuncData} {N ps : List Str} {k : Nat} {ι : Type} {args : ι → List D} {pre : ι → Prop} {out : ι → D → Prop} (F : Fun K x qual st f fd) (S : FnScope N ps (defScope st)) (hl : ∀ i, (args i).length = ps.length)
    (hN : ps.length ≤ N.length)
    (body : ∀ (cdv : Value) (A : Around) (outer : List Env) (s : Shared) (H : Hp) (E : XK) (W : Wd) (H0 : Hp) (i : ι), Room k (A.deeper (envOfC qual (defScope st) s.heap.objs.size f cdv)) → pre i →
      Hs (cxOf CX0 P w K mg base N qual (defScope st) f cdv A outer s H E).nox (defBody st) (At ⟨P, w⟩ W H0 ((args i).map Slot.val ++ List.replicate (N.length - ps.length) Slot.none)) { nx := fun _ H' => Rt ⟨P, w⟩ W H0 (out i) .non H', rt := Rt ⟨P, w⟩ W H0 (out i) }) :
    FnOk P w K mg base CX0 (k + 1) f fd ps (spO ⟨P, w⟩ args pre out) := by
  refine F.ok S (fun vs H Q E h => ?_) (fun cdv A outer s H vs Q E hr h => ?_)
  · obtain ⟨W, i, _, _, rs, _⟩ := h
    rw [rs.length]
    exact hl i
  · obtain ⟨W, i, ok, hp, rs, q⟩ := h
    refine ⟨_, pss_hs (ι := Unit) fun _ => body cdv A outer s H E W H i hr hp, (), ?_, fun σ H' h => ?_, fun v H' h => ?_, fun _ _ h => h, fun _ _ h => h⟩
    · have hv : vs.length = ps.length := by rw [rs.length, hl i]
      refine ⟨fun _ => none, ok, .refl _ _, ?_, fun _ _ _ h => (nomatch h), fun _ _ h => (nomatch h), fun _ _ h => (nomatch h), fun j s' h => ?_⟩
      · unfold L2.start
        rw [List.length_append, List.length_append, List.length_map, List.length_map, List.length_replicate, List.length_replicate, hl i, hv]
      · unfold L2.start
        have e0 : (args i).length = vs.length := rs.length.symm
        by_cases hj : j < vs.length
        · rw [List.getElem?_append_left (by rw [List.length_map, e0]; exact hj)] at h
          rw [List.getElem?_append_left (by rw [List.length_map]; exact hj)]
          rw [List.getElem?_map] at h ⊢
          cases q' : (args i)[j]? with
          | none => rw [q'] at h; cases h
          | some d =>
            rw [q'] at h
            have h : some (Slot.val d) = some s' := h
            cases h
            obtain ⟨v, h1, h2⟩ := rs.get q'
            rw [h1]
            exact ⟨rfl, v, rfl, Rep.car (Car.newS fun p ⟨_, z⟩ => nomatch z) d v h2⟩
        · rw [List.getElem?_append_right (by rw [List.length_map, e0]; omega)] at h
          have hs' : s' = Slot.none := by
            have h1 := List.mem_of_getElem? h
            exact (List.mem_replicate.mp h1).2
          subst hs'
          rfl
    · obtain ⟨d, h1, h2, h3⟩ := h
      exact q _ H' d h1 h2 h3
    · obtain ⟨d, h1, h2, h3⟩ := h
      exact q v H' d h1 h2 h3
end PD

set_option Elab.async false
set_option linter.all false
set_option maxRecDepth 100000
set_option maxHeartbeats 2000000
/-! Pd7: enumerate (from a start, over a list or a tuple) and zip (of lists and tuples in any mix) as things walked. -/
namespace PySem
open Sem (wp)
set_option maxHeartbeats 1000000 in
theorem meets_enumerate_newB1 {v : Value} {o : Obj} {H : Heap → Prop} (B : Begins v o H) :
    Meets (Builtin.«enumerate.__new__» ⟨[.type "enumerate", v], []⟩) (fun _ R s => H s.heap ∧
      R (.ok (.ret (.ref (s.heap.push o).objs.size))) { s with heap := (s.heap.push o).push { cls := .type "enumerate", data := .fields #[.none, .bool false, .ref s.heap.objs.size, rawInt 0, .none, .none] } }) :=
  .of_wp fun prog w A R s h => by
    obtain ⟨hp, g, d, tk, os⟩ := s; obtain ⟨h1, h⟩ := h
    have hsub := sub_enumerate
    have q1 : ∀ {A' : Around} {E : Value → Shared → Prop} {Q : Value → Shared → Prop}, Q (.ref hp.objs.size) ⟨hp.push o, g, d, tk, os⟩ → wpAny (model prog w) A' (pyIter v) Q E ⟨hp, g, d, tk, os⟩ :=
      fun q => B.iter prog w _ _ ⟨hp, g, d, tk, os⟩ _ h1 q
    wp_walk using q1
    refine wpAny_stack_any fun st => wpAny_pure ?_
    split
    · rename_i c _ _ _ _ _
      cases (c == Value.type "enumerate")
      · wp_walk using q1
        exact ⟨_, rfl, h⟩
      · wp_walk using q1
        exact ⟨_, rfl, h⟩
    · wp_walk using q1
      exact ⟨_, rfl, h⟩
theorem enum_begins1 {prog : Program} {w : World} {A : Around} {E : Value → Shared → Prop} {s : Shared} {v : Value} {o : Obj} {H : Heap → Prop} {Q : Value → Shared → Prop} (B : Begins v o H) (h1 : H s.heap)
    (h : ∀ h', IsEnum h' (s.heap.objs.size + 1) s.heap.objs.size 0 .none → h'.get? s.heap.objs.size = some o → h'.objs.size = s.heap.objs.size + 2 →
      (∀ b o, s.heap.get? b = some o → h'.get? b = some o) → Q (.ref (s.heap.objs.size + 1)) { s with heap := h' }) :
    wpAny (model prog w) A (call (.type "enumerate") [v]) Q E s := by
  refine callType_new F.called_enumerate (by decide) (F.typeCall_enumerate_1 _) (F.newCall_enumerate_1 _) (fun obj => F.args_object_init_2 obj _) F.entry_enumerate_new
    (meets_enumerate_newB1 B) ⟨h1, ?_⟩
  have hz : (s.heap.push o).objs.size = s.heap.objs.size + 1 := Heap.size_push ..
  show _ ∧ _
  rw [hz]
  have he : IsEnum ((s.heap.push o).push { cls := .type "enumerate", data := .fields #[.none, .bool false, .ref s.heap.objs.size, rawInt 0, .none, .none] }) (s.heap.objs.size + 1) s.heap.objs.size 0 .none := by
    have := Heap.get?_push_size (s.heap.push o) (o := { cls := .type "enumerate", data := .fields #[.none, .bool false, .ref s.heap.objs.size, rawInt 0, .none, .none] }) rfl
    rw [hz] at this; exact this
  refine ⟨⟨_, he, rfl⟩, h _ he (Heap.get?_push_of_some _ (Heap.get?_push_size _ B.free)) (by rw [Heap.size_push, hz]) fun b o x => Heap.get?_push_of_some _ (Heap.get?_push_of_some _ x)⟩
end PySem
namespace PD
open PySem L2 PySem.Spec PyProof.Rows

/-! ### a list or a tuple (b: a tuple) -/
def SqX (K : PySem.W.Frag) (H : Hp) (a : Addr) (xs : List V) : Bool → Prop
  | false => SqL K H a xs
  | true => SqT K H a xs
def HpX (h : Heap) (a : Addr) (its : Array Value) : Bool → Prop
  | false => h.IsList a its
  | true => h.IsTuple a its
def ItX (h : Heap) (it a : Addr) (i : Nat) : Bool → Prop
  | false => h.IsListIter it a i
  | true => h.IsTupleIter it a i
def obX (a : Addr) : Bool → Obj
  | false => { cls := .type "list_iterator", data := .fields #[.ref a, .int 0 0] }
  | true => { cls := .type "tuple_iterator", data := .fields #[.ref a, .int 0 0] }
theorem begins_X (a : Addr) (its : Array Value) : ∀ b, Begins (.ref a) (obX a b) fun h => HpX h a its b
  | false => begins_list a its
  | true => begins_tuple a its
theorem draws_X {prog : Program} {w : World} {A : Around} (hh : A.handled = none) (it a : Addr) (hne : a ≠ it) (its : Array Value) : ∀ b, Draws prog w A it [it, a] its.size (fun i v => its[i]? = some v) (fun i h => ItX h it a i b ∧ HpX h a its b)
  | false => Draws.list hh it a hne its
  | true => Draws.tuple hh it a hne its
theorem ItX.new {h : Heap} {it a : Addr} (e : ∀ b, h.get? it = some (obX a b) → ItX h it a 0 b) : True := trivial
theorem itX_of {h : Heap} {it a : Addr} : ∀ {b : Bool}, h.get? it = some (obX a b) → ItX h it a 0 b
  | false, e => ⟨_, e, rfl, rfl⟩
  | true, e => ⟨_, e, rfl, rfl⟩
theorem ItX.at {h h' : Heap} {it a : Addr} {i : Nat} : ∀ {b : Bool}, ItX h it a i b → (∀ o, h.get? it = some o → h'.get? it = some o) → ItX h' it a i b
  | false, x, k => Heap.IsListIter.at x k
  | true, x, k => Heap.IsTupleIter.at x k
theorem ItX.obj {h : Heap} {it a : Addr} {i : Nat} : ∀ {b : Bool}, ItX h it a i b → ∃ o, h.get? it = some o ∧ ∀ v, o.data ≠ .cell v
  | false, x => let ⟨o, e, c, d⟩ := x; ⟨o, e, fun v z => by rw [d] at z; cases z⟩
  | true, x => let ⟨o, e, c, d⟩ := x; ⟨o, e, fun v z => by rw [d] at z; cases z⟩
section
variable {X : Cx} {pins : List (Addr × Obj)} {σ : L2.St} {H : Hp} {s : Shared} {a : Addr} {xs ys : List V}
theorem inv_X (I : Inv X pins σ H s) : ∀ {b : Bool}, SqX X.K H a xs b → ∃ its : List Value, Vals xs its ∧ HpX s.heap a its.toArray b ∧ a < s.heap.objs.size
  | false, h => let ⟨its, r, p, _⟩ := I.list h; ⟨its, r, p.isList, p.lt⟩
  | true, h => let ⟨its, r, p, _⟩ := I.tuple h; let ⟨o, ho, _⟩ := id p; ⟨its, r, p, Heap.lt_size ho⟩
theorem inj_X (I : Inv X pins σ H s) : ∀ {b : Bool}, SqX X.K H a xs b → SqX X.K H a ys b → xs = ys
  | false, h, h' => I.list_inj h h'
  | true, h, h' => I.tuple_inj h h'
end
/-! ### enumerate -/
def ItEn (K : PySem.W.Frag) (a : Addr) (b : Bool) (k : Int) : It :=
  ⟨fun i H => ∃ (xs : List V) (x : V), SqX K H a xs b ∧ xs[i]? = some x, fun i H v H' => ∃ T x, v = .ref T ∧ H T = none ∧ H' = upd H T (.tup [.int (k + (i : Nat)), x]) ∧ ∀ xs, SqX K H a xs b → xs[i]? = some x, fun i H => ∃ xs : List V, SqX K H a xs b ∧ xs.length = i⟩
theorem turn_en {P : Program} {w : World} {K : PySem.W.Frag} {elts : List Expr} {kk : Nat} {tpos : Pos} (a e it : Addr) (b : Bool) (k : Int) :
    Turn P w K (.Tuple elts kk tpos) (ItEn K a b k) [e, it] e (fun i h => (∃ old, IsEnum h e it (k + ((i : Nat) : Int)) old) ∧ ItX h it a i b ∧ e ≠ it ∧ a ≠ it ∧ a ≠ e) where
  mem := by simp
  obj := fun i h st c hb => by
    obtain ⟨⟨old, he⟩, hi, _⟩ := st
    have e' : c = e ∨ c = it := by simpa using hb
    rcases e' with z | z
    · rw [z]; exact ⟨_, he, fun v q => nomatch q⟩
    · rw [z]; exact hi.obj
  keep := fun i h h' st k => let ⟨⟨old, he⟩, hi, hne⟩ := st; ⟨⟨old, k e (by simp) _ he⟩, hi.at fun o q => k it (by simp) o q, hne⟩
  item := by
    intro X hP hw hK hc i pins s σ H E I hf st hg
    subst hP hw hK
    obtain ⟨⟨old, he⟩, hit, hne, hai, hae⟩ := st
    obtain ⟨xs, x, hq, hx⟩ := hg
    obtain ⟨its, rv, p, _⟩ := inv_X I hq
    obtain ⟨u, hu, ru⟩ := rv.get hx
    have hi : i < its.toArray.size := by
      rw [List.size_toArray]
      exact (List.getElem?_eq_some_iff.mp hu).1
    have hd : (X.A.in1).handled = none := I.ok.hd hc
    have D := draws_X (prog := X.prog) (w := X.w) (A := X.A.in1) hd it a hai its.toArray b
    have Wk := WalksT.enumFrom (A := X.A) k D e hne (by simp [hne, Ne.symm hae]) (by simp)
    have hilt : e < s.heap.objs.size := Heap.lt_size he
    have hilt2 : it < s.heap.objs.size := by obtain ⟨o, q, _⟩ := hit.obj; exact Heap.lt_size q
    refine Wk.item i s _ E hi ⟨⟨old, he⟩, hit, p⟩ fun T vals h' tk hP hnew hT hm hk => ?_
    obtain ⟨tt, y, hy, ev⟩ := hP
    rw [show its.toArray[i]? = its[i]? by simp, hu] at hy
    cases hy
    refine ⟨_, rfl, Wk.go elts kk tpos i T { s with heap := h', toks := tk } _ E hm fun h'' st'' hk' => ?_⟩
    obtain ⟨he'', hit'', _⟩ := st''
    have hTe : T ≠ e := fun z => absurd (Nat.lt_of_lt_of_le hilt hnew) (by rw [z]; exact Nat.lt_irrefl _)
    have hTi : T ≠ it := fun z => absurd (Nat.lt_of_lt_of_le hilt2 hnew) (by rw [z]; exact Nat.lt_irrefl _)
    have hT2 : h''.IsTuple T vals := hT.at fun o q => hk' T o (by simp [hTe, hTi]) q
    have new : ObjOk X.prog X.w (upd H T (.tup [.int (k + (i : Nat)), x])) h'' T (.tup [.int (k + (i : Nat)), x]) := by
      rw [ev] at hT2
      exact ⟨by show 2 ≤ sizeLine; decide, [.int (k + (i : Nat)) tt, u], .cons ⟨_, rfl⟩ (.cons ru .nil), hT2⟩
    have I1 : Inv X pins σ (upd H T (.tup [.int (k + (i : Nat)), x])) { s with heap := h'', toks := tk } :=
      I.turnedNew (ch := [e, it]) (fun c ob hb q => hk' c ob hb (hk c ob hb q)) hf hnew new
    refine ⟨.ref T, _, I1, rfl, ⟨T, x, rfl, I.hok.fresh hnew, rfl, fun ys hy => by rw [inj_X I hy hq]; exact hx⟩, ⟨he'', hit'', hne, hai, hae⟩, fun c hb => ?_⟩
    have e' : c = e ∨ c = it := by simpa using hb
    rw [upd_ne (by rcases e' with z | z; exact z ▸ Ne.symm hTe; exact z ▸ Ne.symm hTi)]
    exact (hf c hb).1
  done := by
    intro X hP hw hK hc i pins s σ H E I hf st hg
    subst hP hw hK
    obtain ⟨⟨old, he⟩, hit, hne, hai, hae⟩ := st
    obtain ⟨xs, hq, hx⟩ := hg
    obtain ⟨its, rv, p, _⟩ := inv_X I hq
    have hl := rv.length
    have hd : (X.A.in1).handled = none := I.ok.hd hc
    have D := draws_X (prog := X.prog) (w := X.w) (A := X.A.in1) hd it a hai its.toArray b
    have Wk := WalksT.enumFrom (A := X.A) k D e hne (by simp [hne, Ne.symm hae]) (by simp)
    have hi : its.toArray.size = i := by rw [List.size_toArray]; omega
    refine Wk.done s _ E (by rw [hi]; exact ⟨⟨old, he⟩, hit, p⟩) fun h' tk hk => ⟨rfl, I.turnedL (t' := tk) (ch := [e, it]) (fun c o hb q => hk c o hb q) hf⟩
  self := fun A i s Q E st h => let ⟨⟨_, he⟩, _⟩ := st; wpAny_pyIter_enum he h
/-- the pairs that enumerate yields -/
def enumD (k : Int) (ds : List D) : List D := ds.mapIdx fun i d => .tup [.int (k + (i : Nat)), d]
theorem sqX_of {K : PySem.W.Frag} {H : Hp} {a : Addr} {vs : List V} : ∀ {b : Bool}, H a = some (if b then .tup vs else .lst vs) → SqX K H a vs b
  | false, h => SqL.of h
  | true, h => SqT.of h
theorem itd_en {M : MW} {W : Wd} {H1 : Hp} {K : PySem.W.Frag} {a : Addr} {b : Bool} {k : Int} {vs : List V} {ds : List D} (n : ¬ W.S a) (h : H1 a = some (if b then .tup vs else .lst vs)) (r : RepL M W H1 ds vs) : ItD M W H1 (ItEn K a b k) (enumD k ds) where
  go := fun W' i H s hi => by
    obtain ⟨h1, _⟩ := s.car.keep a _ n h
    unfold enumD at hi
    rw [List.length_mapIdx] at hi
    exact ⟨vs, vs[i]'(by rw [r.length]; exact hi), sqX_of h1, by simp [show i < vs.length by rw [r.length]; exact hi]⟩
  stop := fun W' H s => by
    obtain ⟨h1, _⟩ := s.car.keep a _ n h
    exact ⟨vs, sqX_of h1, by unfold enumD; rw [List.length_mapIdx, r.length]⟩
  yld := fun W' i H x H' s hi y => by
    obtain ⟨h1, _⟩ := s.car.keep a _ n h
    obtain ⟨T, z, ev, hT, eH, y⟩ := y
    subst eH; subst ev
    have hx := y vs (sqX_of h1)
    obtain ⟨d, h3, h4⟩ := (RepL.car s.car ds vs r).getV hx
    have sm : Same H (upd H T (.tup [.int (k + (i : Nat)), z])) := fun c o e => by rw [upd_ne (ne_of_none e hT)]; exact e
    have nT : ¬ W'.S T := fun q => by
      obtain ⟨o, e⟩ := s.tr T q
      rw [hT] at e; cases e
    refine ⟨sm, .tup [.int (k + (i : Nat)), d], by unfold enumD; rw [List.getElem?_mapIdx, h3]; rfl, T, _, rfl, nT, upd_same, _, _, rfl, rfl, z, [], rfl, ?_, rfl⟩
    exact Rep.car ⟨fun c o n e => ⟨sm c o e, n⟩, fun _ t => t⟩ d z h4
section
variable {X : Cx} {M : MW} {r : List (Option D)} {K : D → Prop} {e e2 : Expr} {p pos tpos : Pos} {elts : List Expr} {kk : Nat} {ds : List D}
/-- the datum is a list or a tuple of ds -/
def IsSq (ds : List D) (b : Bool) (d : D) : Prop := d = if b then .tup ds else .lst ds
theorem IsSq.rep {W : Wd} {H : Hp} {d : D} {v : V} : ∀ {b : Bool}, IsSq ds b d → Rep M W H d v → ∃ a vs, v = .ref a ∧ ¬ W.S a ∧ H a = some (if b then .tup vs else .lst vs) ∧ RepL M W H ds vs
  | false, e, h => by rw [show d = .lst ds from e] at h; exact h
  | true, e, h => by rw [show d = .tup ds from e] at h; exact h
theorem enum_fin {b : Bool} {k : Int} {pins : List (Addr × Obj)} {σ : L2.St} {H1 : Hp} {s1 : Shared} {R : It → Hp → Prop} {a : Addr} {xs : List V} {its : List Value} {tg : Expr} {E : Value → Shared → Prop} {h' : Heap} (ht : tg = .Tuple elts kk tpos) (I1 : Inv X pins σ H1 s1) (hlt : a < s1.heap.objs.size)
    (he : IsEnum h' (s1.heap.objs.size + 1) s1.heap.objs.size k .none) (ho : h'.get? s1.heap.objs.size = some (obX a b)) (hk : ∀ c o, s1.heap.get? c = some o → h'.get? c = some o) (q : R (ItEn X.K a b k) H1) :
    wpAny (model X.prog X.w) X.A (pyIter (.ref (s1.heap.objs.size + 1))) (PIE X pins σ tg R) E { s1 with heap := h' } := by
  subst ht
  refine wpAny_pyIter_enum he ?_
  have I2 : Inv X pins σ H1 { s1 with heap := h' } := I1.kept (t' := s1.toks) hk
  refine ⟨s1.heap.objs.size + 1, [s1.heap.objs.size + 1, s1.heap.objs.size], _, _, H1, rfl, I2, turn_en a (s1.heap.objs.size + 1) s1.heap.objs.size b k, ⟨⟨.none, by simpa using he⟩, itX_of ho, Nat.succ_ne_self _, Nat.ne_of_lt hlt, Nat.ne_of_lt (Nat.lt_succ_of_lt hlt)⟩, fun c hb => ?_, q⟩
  have e' : c = s1.heap.objs.size + 1 ∨ c = s1.heap.objs.size := by simpa using hb
  have hle : s1.heap.objs.size ≤ c := by
    rcases e' with z | z
    · rw [z]; exact Nat.le_add_right _ _
    · rw [z]; exact Nat.le_refl _
  exact I1.fpOk hle (I1.hok.fresh hle)
def iEnX (K : PySem.W.Frag) (b : Bool) (k : Int) (ta : TA) : TI := fun σ H R => ta σ H fun vs H1 => ∃ a xs, vs = [.ref a] ∧ SqX K H1 a xs b ∧ R (ItEn K a b k) H1
theorem pi_en {b : Bool} {ta : TA} (hm : X.mg "enumerate" = none) (ha : PA X [e] ta) (hg : Gl X "enumerate" := by rfl) (hs : starEach [e] X.env = [(false, eval e X.env)] := by rfl) : PI X (.Tuple elts kk tpos) (.Call (.Name "enumerate" p) [e] [] pos) (iEnX X.K b 0 ta) := by
  refine ⟨fun pins s σ H R I h => ?_⟩
  refine Call_ (ld_blt I hg hm boot_enumerate (PyProof.Rows.callWith_type1 (thn (ha.run pos pins s σ H _ I h) fun us s1 ⟨vs, H1, I1, r1, q1⟩ => ?_) hs rfl))
  obtain ⟨a, xs, ex, hq, q⟩ := q1
  subst ex
  cases r1 with
  | cons r rr =>
    cases rr
    cases r
    obtain ⟨its, rv, p', hlt⟩ := inv_X I1 hq
    exact enum_begins1 (begins_X a its.toArray b) p' fun h' he ho hsz hk => enum_fin (its := its) (xs := xs) rfl I1 hlt he ho hk q
def iEnX2 (K : PySem.W.Frag) (b : Bool) (k : Int) (ta : TA) : TI := fun σ H R => ta σ H fun vs H1 => ∃ a xs, vs = [.ref a, .int k] ∧ -(2 ^ 63) ≤ k ∧ k < 2 ^ 63 ∧ SqX K H1 a xs b ∧ R (ItEn K a b k) H1
theorem pi_en2 {b : Bool} {k : Int} {ta : TA} (hm : X.mg "enumerate" = none) (ha : PA X [e, e2] ta) (hg : Gl X "enumerate" := by rfl) (hs : starEach [e, e2] X.env = (false, eval e X.env) :: starEach [e2] X.env := by rfl) (hpl : (backTo pos (starEach [e2] X.env)).any (·.1) = false := by rfl) :
    PI X (.Tuple elts kk tpos) (.Call (.Name "enumerate" p) [e, e2] [] pos) (iEnX2 X.K b k ta) := by
  refine ⟨fun pins s σ H R I h => ?_⟩
  refine Call_ (ld_blt I hg hm boot_enumerate (PyProof.Rows.callWith_type1 (thn (ha.run pos pins s σ H _ I h) fun us s1 ⟨vs, H1, I1, r1, q1⟩ => ?_) hs hpl))
  obtain ⟨a, xs, ex, hk0, hk1, hq, q⟩ := q1
  subst ex
  cases r1 with
  | cons r rr =>
    cases rr with
    | cons r' rr =>
      cases rr
      cases r
      obtain ⟨t, rfl⟩ := r'
      obtain ⟨its, rv, p', hlt⟩ := inv_X I1 hq
      exact enum_begins (begins_X a its.toArray b) p' hk0 hk1 fun h' he ho hsz hk => enum_fin (its := its) (xs := xs) rfl I1 hlt he ho hk q
theorem ei_en {b : Bool} {d : D} (hm : X.mg "enumerate" = none) (h : PA X [e] (tAD M r [d])) (hd : IsSq ds b d) (hg : Gl X "enumerate" := by rfl) (hs : starEach [e] X.env = [(false, eval e X.env)] := by rfl) : PI X (.Tuple elts kk tpos) (.Call (.Name "enumerate" p) [e] [] pos) (tI M r (enumD 0 ds)) :=
  (pi_en (b := b) hm h hg hs).wk fun σ H R ⟨W, hsl, ok, q⟩ => ⟨W, hsl, ok, fun us H1 dd kd e1 rv => by
    subst kd
    obtain ⟨v, e0, rv⟩ := rv.one_of
    obtain ⟨a, vs, e', n, h1, h2⟩ := hd.rep rv
    subst e'
    exact ⟨a, vs, e0, sqX_of h1, q _ H1 _ rfl e1 (itd_en n h1 h2)⟩⟩
theorem ei_en2 {b : Bool} {d : D} {k : Int} (hm : X.mg "enumerate" = none) (h : PA X [e, e2] (tAD M r [d, .int k])) (hd : IsSq ds b d) (hk : -(2 ^ 63) ≤ k ∧ k < 2 ^ 63) (hg : Gl X "enumerate" := by rfl) (hs : starEach [e, e2] X.env = (false, eval e X.env) :: starEach [e2] X.env := by rfl) (hpl : (backTo pos (starEach [e2] X.env)).any (·.1) = false := by rfl) :
    PI X (.Tuple elts kk tpos) (.Call (.Name "enumerate" p) [e, e2] [] pos) (tI M r (enumD k ds)) :=
  (pi_en2 (b := b) (k := k) hm h hg hs hpl).wk fun σ H R ⟨W, hsl, ok, q⟩ => ⟨W, hsl, ok, fun us H1 dd kd e1 rv => by
    subst kd
    obtain ⟨v, u, e0, rv, ru⟩ := rv.two_of
    obtain ⟨a, vs, e', n, h1, h2⟩ := hd.rep rv
    subst e'
    rw [show u = V.int k from ru] at e0
    exact ⟨a, vs, e0, hk.1, hk.2, sqX_of h1, q _ H1 _ rfl e1 (itd_en n h1 h2)⟩⟩
end
end PD

set_option Elab.async false
set_option linter.all false
set_option maxRecDepth 100000
set_option maxHeartbeats 2000000
/-! Pd8: dicts with nested keys: read, written, made. -/
namespace PD
open PySem L2 PySem.Spec PyProof.Rows

/-! ### plain dicts -/
def valN (kvs : List (NestedKey × D)) (k : NestedKey) : Option D := (kvs.find? fun p => decide (p.1 = k)).map (·.2)
def putN (kvs : List (NestedKey × D)) (k : NestedKey) (d : D) : List (NestedKey × D) :=
  if (valN kvs k).isSome then kvs.map fun p => if p.1 = k then (p.1, d) else p else kvs ++ [(k, d)]
theorem valN_nil {k : NestedKey} : valN [] k = none := rfl
theorem valN_cons {k k' : NestedKey} {d : D} {r : List (NestedKey × D)} : valN ((k', d) :: r) k = if k' = k then some d else valN r k := by
  unfold valN
  rw [List.find?_cons]
  by_cases h : k' = k
  · rw [if_pos h, decide_eq_true h]; rfl
  · rw [if_neg h, decide_eq_false h]
theorem valN_mem {kvs : List (NestedKey × D)} {k : NestedKey} : (valN kvs k).isSome = true ↔ k ∈ kvs.map (·.1) := by
  induction kvs with
  | nil => simp [valN]
  | cons p r ih =>
    obtain ⟨k', d⟩ := p
    rw [valN_cons]
    by_cases h : k' = k
    · rw [if_pos h]; simp [h]
    · rw [if_neg h, ih]; simp [Ne.symm h]
theorem valN_append_old {kvs r : List (NestedKey × D)} {k : NestedKey} (h : (valN kvs k).isSome = true) : valN (kvs ++ r) k = valN kvs k := by
  induction kvs with
  | nil => cases h
  | cons p q ih =>
    obtain ⟨k', d⟩ := p
    rw [List.cons_append, valN_cons, valN_cons]
    rw [valN_cons] at h
    by_cases e : k' = k
    · rw [if_pos e, if_pos e]
    · rw [if_neg e] at h
      rw [if_neg e, if_neg e, ih h]
theorem valN_append_new {kvs r : List (NestedKey × D)} {k : NestedKey} (h : valN kvs k = none) : valN (kvs ++ r) k = valN r k := by
  induction kvs with
  | nil => rfl
  | cons p q ih =>
    obtain ⟨k', d⟩ := p
    rw [List.cons_append, valN_cons]
    rw [valN_cons] at h
    by_cases e : k' = k
    · rw [if_pos e] at h; cases h
    · rw [if_neg e] at h
      rw [if_neg e, ih h]
theorem valN_map {kvs : List (NestedKey × D)} {k k' : NestedKey} {d : D} : valN (kvs.map fun p => if p.1 = k then (p.1, d) else p) k' = if k' = k then (valN kvs k').map fun _ => d else valN kvs k' := by
  induction kvs with
  | nil => rw [List.map_nil]; split <;> rfl
  | cons p q ih =>
    obtain ⟨k1, d1⟩ := p
    rw [List.map_cons]
    by_cases e : k1 = k
    · rw [if_pos e, valN_cons, valN_cons, ih]
      by_cases e2 : k' = k
      · rw [if_pos e2, if_pos e2, if_pos (e.trans e2.symm), if_pos (e.trans e2.symm)]; rfl
      · rw [if_neg e2, if_neg e2]
        rw [if_neg (fun z => e2 (z.symm.trans e)), if_neg (fun z => e2 (z.symm.trans e))]
    · rw [if_neg e, valN_cons, valN_cons, ih]
      by_cases e2 : k' = k
      · rw [if_pos e2, if_pos e2, if_neg (fun z => e (z.trans e2)), if_neg (fun z => e (z.trans e2))]
      · rw [if_neg e2, if_neg e2]
theorem valN_put {kvs : List (NestedKey × D)} {k k' : NestedKey} {d : D} : valN (putN kvs k d) k' = if k' = k then some d else valN kvs k' := by
  unfold putN
  by_cases h : (valN kvs k).isSome = true
  · rw [if_pos h, valN_map]
    by_cases e : k' = k
    · rw [if_pos e, if_pos e, e]
      obtain ⟨x, hx⟩ := Option.isSome_iff_exists.mp h
      rw [hx]; rfl
    · rw [if_neg e, if_neg e]
  · rw [if_neg h]
    have hn : valN kvs k = none := by simpa using h
    by_cases e : k' = k
    · rw [if_pos e, e, valN_append_new hn, valN_cons, if_pos rfl]
    · rw [if_neg e]
      cases q : valN kvs k' with
      | none => rw [valN_append_new q, valN_cons, if_neg (fun z => e z.symm)]; rfl
      | some x => rw [valN_append_old (by rw [q]; rfl), q]
theorem keys_map_put {kvs : List (NestedKey × D)} {k : NestedKey} {d : D} : (kvs.map fun p => if p.1 = k then (p.1, d) else p).map (·.1) = kvs.map (·.1) := by
  rw [List.map_map]
  refine List.map_congr_left fun p _ => ?_
  show (if p.1 = k then (p.1, d) else p).1 = p.1
  split <;> rfl
theorem nodup_put {kvs : List (NestedKey × D)} {k : NestedKey} {d : D} (h : (kvs.map (·.1)).Nodup) : ((putN kvs k d).map (·.1)).Nodup := by
  unfold putN
  by_cases q : (valN kvs k).isSome = true
  · rw [if_pos q, keys_map_put]; exact h
  · rw [if_neg q, List.map_append, List.nodup_append]
    refine ⟨h, by simp, fun a ha b hb e => ?_⟩
    have hb : b = k := by simpa using hb
    exact q (valN_mem.mpr (by rw [← hb, ← e]; exact ha))
theorem length_put {kvs : List (NestedKey × D)} {k : NestedKey} {d : D} : (putN kvs k d).length ≤ kvs.length + 1 := by
  unfold putN
  split
  · rw [List.length_map]; exact Nat.le_succ _
  · rw [List.length_append]; exact Nat.le_refl _
theorem mem_put {kvs : List (NestedKey × D)} {k : NestedKey} {d : D} {x : NestedKey} (h : x ∈ (putN kvs k d).map (·.1)) : x ∈ kvs.map (·.1) ∨ x = k := by
  unfold putN at h
  split at h
  · rw [keys_map_put] at h; exact .inl h
  · rw [List.map_append] at h
    rcases List.mem_append.mp h with h | h
    · exact .inl h
    · exact .inr (by simpa using h)
/-- d.update(e) -/
def mergeN (kvs more : List (NestedKey × D)) : List (NestedKey × D) := more.foldl (fun acc p => putN acc p.1 p.2) kvs

/-! ### from the abstract heap to the model -/
section
variable {X : Cx} {pins : List (Addr × Obj)} {σ : L2.St} {H : Hp} {s : Shared} {W : Wd}
mutual
theorem krep_is (I : Inv X pins σ H s) : ∀ (k : NestedKey) (v : V) (u : Value), KRep W H k v → RelV v u → NestedIs s.heap k u
  | .none, v, u, h, r => by rw [show v = V.non from h] at r; cases r; exact .none
  | .num i, v, u, h, r => by
    rw [show v = V.int i from h] at r
    obtain ⟨t, rfl⟩ := r
    exact .int i t
  | .text x, v, u, h, r => by
    rw [show v = V.str x from h] at r
    obtain ⟨t, rfl⟩ := r
    exact .text x t
  | .tup ks, v, u, h, r => by
    obtain ⟨a, vs, e, n, ⟨o', od, h1⟩, h2⟩ := h
    subst e
    obtain rfl : u = Value.ref a := r
    obtain ⟨_, _, its, rv, o, e1, e2, m, e3⟩ := (show ObjOk X.prog X.w H s.heap a (.frz o' (.tup vs)) from I.hok a _ h1)
    exact .tup e1 e2 e3 (krepL_is I ks vs its h2 rv)
theorem krepL_is (I : Inv X pins σ H s) : ∀ (ks : List NestedKey) (vs : List V) (us : List Value), KRepL W H ks vs → Vals vs us → NestedAll s.heap ks us
  | [], vs, us, h, r => by
    rw [show vs = [] from h] at r
    cases r
    exact .nil
  | k :: ks, vs, us, h, r => by
    obtain ⟨v, rr, e, h1, h2⟩ := h
    subst e
    cases r with
    | cons r1 r2 => exact .cons (krep_is I k v _ h1 r1) (krepL_is I ks rr _ h2 r2)
end
abbrev nk (M : MW) : HeapKind M.P M.w NestedKey := nestedKind M.P M.w
theorem RepKV.mem {kvs : List (NestedKey × D)} {es : List (NestedKey × Addr × Value)} {M : MW} (h : RepKV M W H kvs es) {x : NestedKey × Addr × Value} (hx : x ∈ es) : KRep W H x.1 (.ref x.2.1) := by
  induction kvs generalizing es with
  | nil => rw [show es = [] from h] at hx; cases hx
  | cons p r ih =>
    obtain ⟨k, d⟩ := p
    obtain ⟨a, u, v, es', e, h1, h2, h3, h4⟩ := h
    subst e
    rcases List.mem_cons.mp hx with e | e
    · rw [e]; exact h1
    · exact ih h4 e
theorem dct_of (I : Inv X pins σ H s) {a : Addr} {o : Obj} {es : List (NestedKey × Addr × Value)} {kvs : List (NestedKey × D)} (h : H a = some (dO a o)) (he : Ents (pw X) o es) (r : RepKV (pw X) W H kvs es) : s.heap.DictOfH (nk (pw X)) a es := by
  obtain ⟨x, ⟨raw, ep, e1, e2⟩, nd, sz, dp⟩ := he
  obtain ⟨hg, _⟩ := (show ObjOk X.prog X.w H s.heap a (dO a o) from I.hok a _ h)
  exact ⟨o, raw, ep, hg, x, e1, e2, fun y hy => ⟨krep_is I _ _ _ (r.mem hy) rfl, dp y hy⟩, nd⟩
theorem key_is (I : Inv X pins σ H s) {k : NestedKey} {a : Addr} (h : KRep W H k (.ref a)) (hd : k.depth ≤ 8) : (nk (pw X)).is s.heap k a := ⟨krep_is I _ _ _ h rfl, hd⟩
theorem ents_of {M : MW} {h' : Heap} {a : Addr} {es : List (NestedKey × Addr × Value)} (hd : h'.DictOfH (nk M) a es) (sz : es.length ≤ sizeLine) : ∃ o, h'.get? a = some o ∧ Ents M o es := by
  obtain ⟨o, raw, ep, h1, h2, h3, h4, h5, h6⟩ := hd
  exact ⟨o, h1, h2, ⟨raw, ep, h3, h4⟩, h6, sz, fun e he => (h5 e he).2⟩
theorem dO_ok {P : Program} {w : World} {H' : Hp} {h' : Heap} {a : Addr} {o : Obj} (h : h'.get? a = some o) : ObjOk P w H' h' a (dO a o) := ⟨h, ⟨o, h⟩, fun _ _ e k => k o e⟩
theorem RepKV.val {M : MW} {kvs : List (NestedKey × D)} {es : List (NestedKey × Addr × Value)} {k : NestedKey} {d : D} (r : RepKV M W H kvs es) (h : valN kvs k = some d) : ∃ p v, atKey es k = some p ∧ RelV v p.2 ∧ Rep M W H d v := by
  induction kvs generalizing es with
  | nil => cases h
  | cons p q ih =>
    obtain ⟨k', d'⟩ := p
    obtain ⟨a, u, v, es', e, h1, h2, h3, h4⟩ := r
    subst e
    rw [valN_cons] at h
    unfold atKey
    rw [List.find?_cons]
    by_cases e : k' = k
    · rw [if_pos e] at h
      cases h
      rw [show decide (k' = k) = true from decide_eq_true e]
      exact ⟨(a, u), v, rfl, h2, h3⟩
    · rw [if_neg e] at h
      rw [show decide (k' = k) = false from decide_eq_false e]
      exact ih h4 h
theorem RepKV.some_iff {M : MW} {kvs : List (NestedKey × D)} {es : List (NestedKey × Addr × Value)} {k : NestedKey} (r : RepKV M W H kvs es) : (atKey es k).isSome = (valN kvs k).isSome := by
  induction kvs generalizing es with
  | nil => rw [show es = [] from r]; rfl
  | cons p q ih =>
    obtain ⟨k', d'⟩ := p
    obtain ⟨a, u, v, es', e, h1, h2, h3, h4⟩ := r
    subst e
    rw [valN_cons]
    unfold atKey
    rw [List.find?_cons]
    by_cases e : k' = k
    · rw [if_pos e, show decide (k' = k) = true from decide_eq_true e]; rfl
    · rw [if_neg e, show decide (k' = k) = false from decide_eq_false e]
      exact ih h4
theorem RepKV.append {M : MW} {kvs kvs' : List (NestedKey × D)} {es es' : List (NestedKey × Addr × Value)} (r : RepKV M W H kvs es) (r' : RepKV M W H kvs' es') : RepKV M W H (kvs ++ kvs') (es ++ es') := by
  induction kvs generalizing es with
  | nil => rw [show es = [] from r]; exact r'
  | cons p q ih =>
    obtain ⟨k', d'⟩ := p
    obtain ⟨a, u, v, es', e, h1, h2, h3, h4⟩ := r
    subst e
    exact ⟨a, u, v, es' ++ _, rfl, h1, h2, h3, ih h4⟩
theorem RepKV.put {M : MW} {kvs : List (NestedKey × D)} {es : List (NestedKey × Addr × Value)} {k : NestedKey} {d : D} {a : Addr} {v : V} {u : Value} (r : RepKV M W H kvs es) (hk : KRep W H k (.ref a)) (hv : RelV v u) (hd : Rep M W H d v) : RepKV M W H (putN kvs k d) (storedH es k a u) := by
  unfold putN storedH
  rw [r.some_iff]
  split
  · rename_i hh
    clear hk hh
    induction kvs generalizing es with
    | nil => rw [show es = [] from r]; rfl
    | cons p q ih =>
      obtain ⟨k', d'⟩ := p
      obtain ⟨b, u', v', es', e, h1, h2, h3, h4⟩ := r
      subst e
      rw [List.map_cons, List.map_cons]
      unfold putAt
      by_cases e : k' = k
      · rw [if_pos e, if_pos e]
        exact ⟨b, u, v, _, rfl, h1, hv, hd, ih h4⟩
      · rw [if_neg e, if_neg e]
        exact ⟨b, u', v', _, rfl, h1, h2, h3, ih h4⟩
  · exact r.append ⟨a, u, v, [], rfl, hk, hv, hd, rfl⟩
end
end PD

set_option Elab.async false
set_option linter.all false
set_option maxRecDepth 100000
set_option maxHeartbeats 2000000
/-! Pd9: dicts with nested keys: rules for expressions and statements. -/
namespace PD
open PySem L2 PySem.Spec PyProof.Rows

/-- W with p left out of what must be avoided -/
theorem Rep.dct_at {M : MW} {W : Wd} {H : Hp} {kvs : List (NestedKey × D)} {v : V} (h : Rep M W H (.dct kvs) v) : ∃ a o es, v = .ref a ∧ ¬ W.S a ∧ H a = some (dO a o) ∧ (a == sysModules) = false ∧ Ents M o es ∧ RepKV M W H kvs es := h
section
variable {X : Cx} {pins : List (Addr × Obj)} {σ : L2.St} {H : Hp} {s : Shared}
/-! ### d[k] -/
def rIxN (M : MW) : R2 := fun x y H Q => ∃ W kvs k d, Rep M W H (.dct kvs) x ∧ (∃ b, y = .ref b) ∧ KRep W H k y ∧ k.depth ≤ 8 ∧ valN kvs k = some d ∧ ∀ v, Rep M W H d v → Q v H
theorem pe_dgetN {o i : Expr} {pos : Pos} {td ty : TE} (hu : X.A.units + 64 < cLine) (ho : PE X o td) (hi : PE X i ty) (hs : NoSl i := by intro _ _; rfl) : PE X (.Subscript o i pos) (tOp (rIxN (pw X)) td ty) := by
  refine ⟨fun pins s σ H Q I h => ?_⟩
  refine subD_of PySem.F.slot_dict_getitem.lookup hs (thn (ho.run pins s σ H _ I h) fun u s1 ⟨x, H1, I1, rx, q1⟩ => thn (hi.run pins s1 σ H1 _ I1 q1) fun iv s2 ⟨y, H2, I2, ry, W, kvs, k, d, rd, ⟨b, eb⟩, hk, hd, hv, q2⟩ => ?_)
  obtain ⟨a, ob, es, e, n, h1, h0, he, rk⟩ := rd
  subst e; subst eb
  obtain rfl : u = Value.ref a := rx
  obtain rfl : iv = Value.ref b := ry
  have dd := dct_of I2 h1 he rk
  obtain ⟨p, v, hp, rv, rd⟩ := rk.val hv
  exact ⟨dd.typeIs, wpAny_getItem_heap (knd := nk (pw X)) (show X.A.units + 1 + 8 < cLine by omega) (key_is I2 hk hd) dd hp ⟨v, H2, I2.tok _, rv, q2 v rd⟩⟩
theorem op2_dget {M : MW} {kvs : List (NestedKey × D)} {ks : List NestedKey} {d : D} (h : valN kvs (.tup ks) = some d) (hd : (NestedKey.tup ks).depth ≤ 8) : Op2 M (rIxN M) (.dct kvs) (kd (.tup ks)) (fun x => x = d) := fun W H x y Q ok rx ry q =>
  ⟨W, kvs, .tup ks, d, rx, (let ⟨a, vs, e, _⟩ := ry; ⟨a, e⟩), (krep_kd (M := M) _ _).mpr ry, hd, h, fun v rv => q v H d rfl (.refl _ _) rv⟩
/-! ### d[k] = v, a dict in the making -/
def sPutN (M : MW) (td ty tv : TE) : TS := fun D σ H => tv σ H fun v H1 => td σ H1 fun x H2 => ty σ H2 fun y H3 => ∃ (W : Wd) (a : Addr) (o : Obj) (es : List (NestedKey × Addr × Value)) (kvs : List (NestedKey × PD.D)) (k : NestedKey) (b : Addr),
  x = .ref a ∧ H3 a = some (dO a o) ∧ (a == sysModules) = false ∧ Ents M o es ∧ RepKV M W H3 kvs es ∧ y = .ref b ∧ KRep W H3 k y ∧ k.depth ≤ 8 ∧ es.length < sizeLine ∧ ∀ o' u, RelV v u → Ents M o' (storedH es k b u) → D.nx σ (L2.upd H3 a (dO a o'))
theorem len_storedH (es : List (NestedKey × Addr × Value)) (k : NestedKey) (b : Addr) (u : Value) : (storedH es k b u).length ≤ es.length + 1 := by
  unfold storedH
  split
  · rw [List.length_map]; exact Nat.le_succ _
  · rw [List.length_append]; exact Nat.le_refl _
theorem ps_putN {o i value : Expr} {pos pos' : Pos} {td ty tv : TE} (hu : X.A.units + 64 < cLine) (ho : PE X o td) (hi : PE X i ty) (hv : PE X value tv) (hs : swapsWith value (some (.Subscript o i pos')) pos.line X.env = pure false := by rfl) :
    PS X (.Assign [.Subscript o i pos'] value pos) (sPutN (pw X) td ty tv) := by
  refine ⟨fun pins s σ H D I h => ?_⟩
  refine wpAny_Assign_Subscript (thn (hv.run pins s σ H _ I h) fun r s1 ⟨v, H1, I1, rv, q1⟩ => thn (ho.run pins s1 σ H1 _ I1 q1) fun u s2 ⟨x, H2, I2, rx, q2⟩ => thn (hi.run pins s2 σ H2 _ I2 q2) fun iv s3 ⟨y, H3, I3, ry, W, a, ob, es, kvs, k, b, ex, h1, h0, he, rk, ey, hk, hd, hz, q3⟩ => ?_) hs
  subst ex; subst ey
  obtain rfl : u = Value.ref a := rx
  obtain rfl : iv = Value.ref b := ry
  have dd := dct_of I3 h1 he rk
  refine wpAny_setItem_heap (knd := nk (pw X)) (hsz := Nat.le_of_lt hz) (show X.A.units + 1 + 8 < cLine by omega) (key_is I3 hk hd) dd fun h' dd' sb => ?_
  obtain ⟨o', ho', he'⟩ := ents_of dd' (by have := len_storedH es k b r; omega)
  exact ⟨σ, _, I3.write (x := a) (e := a) (by rw [h1]; exact True.intro) (.inl rfl) (fun c q hc z => (sb.2 c hc).trans z) ⟨_, ho'⟩ (dO_ok ho'), q3 o' r rv he'⟩
end
/-! ### a new dict -/
def tFD (M : MW) (r : List (Option D)) (K : List (NestedKey × D) → Prop) : TE := fun σ H Q => ∃ W, Slots M W H r σ ∧ W.ok H ∧
  ∀ p o es H2 kvs, K kvs → H p = none → Ext W H H2 → H2 p = some (dO p o) → (p == sysModules) = false → Ents M o es → RepKV M (W.add p) H2 kvs es → Q (.ref p) H2
section
variable {X : Cx} {M : MW} {r : List (Option D)} {K : D → Prop} {Kd : List (NestedKey × D) → Prop} {e a b : Expr} {pos : Pos}
theorem ed_newD (h : PE X e (tFD M r Kd)) (k : ∀ kvs, Kd kvs → K (.dct kvs)) : PE X e (tN M r K) := h.wk fun σ H Q ⟨W, hs, ok, q⟩ =>
  ⟨W, hs, ok, fun p o es H2 kvs kk hp e1 h2 h0 he rk => q _ H2 _ (k kvs kk) e1 ⟨p, o, es, rfl, ok.nS hp, h2, h0, he, RepKV.car Car.back kvs es rk⟩⟩
def obj0 : Obj := { cls := .type "dict", data := .dict #[] }
theorem ents0 {M : MW} : Ents M obj0 [] := ⟨⟨rfl, rfl, rfl⟩, ⟨#[], 0, rfl, rfl⟩, List.nodup_nil, Nat.zero_le _, fun _ h => nomatch h⟩
theorem big_of {pins : List (Addr × Obj)} {σ : L2.St} {H : Hp} {s : Shared} (I : Inv X pins σ H s) : (s.heap.objs.size == sysModules) = false := beq_eq_false_iff_ne.mpr (Ne.symm (Nat.ne_of_lt I.big))
/-- {} -/
theorem ef_dct0 : PE X (.Dict [] [] pos) (tFD M r (fun k => k = [])) := ⟨fun pins s σ H Q I ⟨W, hs, ok, q⟩ => by
  have hn := I.hok.fresh (Nat.le_refl s.heap.objs.size)
  have hg : (s.heap.push obj0).get? s.heap.objs.size = some obj0 := Heap.get?_push_size _ rfl
  exact wpAny_Dict_empty ⟨.ref s.heap.objs.size, _, I.laid (a := s.heap.objs.size) (o := dO _ obj0) (t' := s.toks) (fun _ _ q => Heap.get?_push_of_some _ q) (Nat.le_refl _) (dO_ok hg), rfl, q _ obj0 [] _ [] rfl hn (.new hn) upd_same (big_of I) ents0 rfl⟩⟩
/-- {k: v} -/
theorem ef_dct1 {ke ve : Expr} {ks : List NestedKey} {d : D} (hu : X.A.units + 64 < cLine) (hk : PE X ke (tD (pw X) r (kd (.tup ks)))) (hv : PE X ve (tD (pw X) r d)) (hd : (NestedKey.tup ks).depth ≤ 8) : PE X (.Dict [some ke] [ve] pos) (tFD (pw X) r (fun k => k = [(.tup ks, d)])) := by
  refine ⟨fun pins s σ H Q I ⟨W, hs, ok, q⟩ => ?_⟩
  have hn := I.hok.fresh (Nat.le_refl s.heap.objs.size)
  have hg : (s.heap.push obj0).get? s.heap.objs.size = some obj0 := Heap.get?_push_size _ rfl
  have I1 := I.laid (a := s.heap.objs.size) (o := dO _ obj0) (h' := s.heap.push obj0) (t' := s.toks) (fun _ _ q => Heap.get?_push_of_some _ q) (Nat.le_refl _) (dO_ok hg)
  have e0 : Ext W H (upd H s.heap.objs.size (dO s.heap.objs.size obj0)) := .new hn
  have hbig := big_of I
  generalize hp : s.heap.objs.size = p at hn hg I1 e0 hbig
  have okp : (W.add p).ok (upd H p (dO p obj0)) := (ok.ext e0).adds fun a z => by rw [show a = p from z]; exact ⟨_, upd_same⟩
  have carp : Car W (W.add p) H (upd H p (dO p obj0)) := ⟨fun c o n h => ⟨by rw [upd_ne (ne_of_none h hn)]; exact h, fun z => z.elim n fun z => ne_of_none h hn z⟩, fun _ t => t⟩
  have hsp := hs.car carp
  rw [arm_eval_Dict, show (evalEachOpt [some ke] X.env).zip ((evalEach [ve] X.env).map fun v => do let x ← v; standAt pos; pure x) = (pairTrees [some ke] [ve] X.env pos).map (fun p => (some p.1, p.2)) from zip_pairTrees _ _ _ _ rfl rfl,
    dictDisplay_pairs _ (by intro h; cases h) (by rw [show (pairTrees [some ke] [ve] X.env pos).length = 1 from rfl]; decide)]
  refine wpAny_bind (wpAny_standAt (wpAny_bind (wpAny_subDictH (knd := nk (pw X)) (show X.A.units + 8 < cLine by omega) (by show 1 ≤ 15; decide) ?_)))
  rw [hp]
  have A1 := hk.run pins _ σ _ (fun x H1 => Ext (W.add p) (upd H p (dO p obj0)) H1 ∧ Rep (pw X) (W.add p) H1 (kd (.tup ks)) x) I1 ⟨W.add p, hsp, okp, fun x H1 dx kx e1 rx => ⟨e1, by rw [← kx]; exact rx⟩⟩
  refine pairTrees_cons_walk (thn A1 fun u s1 ⟨x, H1, I2, r1, e1, rx⟩ => ?_)
  have ok1 := okp.ext e1
  have A2 := hv.run pins s1 σ H1 (fun y H2 => Ext (W.add p) H1 H2 ∧ Rep (pw X) (W.add p) H2 d y) I2 ⟨W.add p, hsp.ext okp e1, ok1, fun x H1 dx kx e1 rx => ⟨e1, by rw [← kx]; exact rx⟩⟩
  refine thn A2 fun z s2 ⟨y, H2, I3, r2, e2, ry⟩ => ?_
  have rx2 := rx.ext ok1 e2
  have ok2 := ok1.ext e2
  have e12 : Ext W (upd H p (dO p obj0)) H2 := Ext.adds.mp (e1.trans e2)
  have nT : ¬ W.T p := fun t => by
    obtain ⟨o, e⟩ := ok.tr p (ok.sub p t)
    rw [hn] at e; cases e
  have hp2 : H2 p = some (dO p obj0) := e12.keep p _ nT upd_same
  have kx2 : KRep (W.add p) H2 (.tup ks) x := (krep_kd (M := pw X) _ _).mpr rx2
  obtain ⟨b, vs, eb, nb, hb, kb⟩ := id kx2
  subst eb
  obtain rfl : u = Value.ref b := r1
  have dd : s2.heap.DictOfH (nk (pw X)) p [] := dct_of (W := W) (kvs := []) I3 hp2 ents0 rfl
  refine pairTrees_nil_walk ⟨[(.tup ks, b, z)], ⟨rfl, rfl, key_is I3 kx2 hd, trivial⟩, dd, fun h' tk hd' sb => wpAny_pure ?_⟩
  obtain ⟨o', ho', he'⟩ := ents_of hd' (by show 1 ≤ sizeLine; decide)
  have I4 : Inv X pins σ (upd H2 p (dO p o')) { s2 with heap := h', toks := tk } := I3.write (x := p) (e := p) (by rw [hp2]; exact True.intro) (.inl rfl) (fun c q hc z => (sb.2 c hc).trans z) ⟨_, ho'⟩ (dO_ok ho')
  refine ⟨.ref p, _, I4, rfl, q p o' _ _ _ rfl hn ((e0.trans e12).mut hn) upd_same hbig he' ?_⟩
  exact ⟨b, z, y, [], rfl, KRep.car (Car.upd (W := W.add p) (.inr rfl)) _ _ kx2, r2, Rep.car (Car.upd (W := W.add p) (.inr rfl)) _ _ ry, rfl⟩
end
/-! ### statements -/
section
variable {X : Cx} {W : Wd} {H0 : Hp} {r : List Slot} {K : D → Prop} {rest : List Stmt} {E : Ends} {e : Expr} {pos pos' : Pos} {x : Str} {i : Nat} {d : D}
theorem At.tFD {M : MW} {σ : L2.St} {H : Hp} {Q : VK} {Ks : List (NestedKey × D) → Prop} (a : At M W H0 r σ H) (hi : i < r.length) (q : ∀ p H2 ds, Ks ds → At M W H0 (r.set i (.ownD ds)) (σ.set i (some (.ref p))) H2 → Q (.ref p) H2) : PD.tFD M (vis r) Ks σ H Q := by
  obtain ⟨own, a⟩ := a
  exact ⟨W.adds (OwnS own), a.slots, a.ok', fun p o es H2 ds ks hp e h2 h0 he rs => q p H2 ds ks (a.new hi hp (Ext.adds.mp e) ⟨p, o, es, rfl, rfl, h2, h0, he, rs⟩)⟩
theorem hs_setNewD (i : Nat) {Ks : List (NestedKey × D) → Prop} (he : PE X e (tFD (pw X) (vis r) Ks)) (k : ∀ ds, Ks ds → Hs X rest (At (pw X) W H0 (r.set i (.ownD ds))) E) (hr : i < r.length) (hN : X.N.Nodup) (hi : X.N[i]? = some x := by rfl) (hx : Loc X.env.scope x := by first | exact .inl rfl | exact .inr rfl)
    (hs : swapsWith e (some (.Name x pos')) pos.line X.env = pure false := by rfl) (hf : X.fn x = true ∨ X.env.scope.names.lookup x = some .local := by first | exact .inl rfl | exact .inr rfl | assumption) :
    Hs X (.Assign [.Name x pos'] e pos :: rest) (At (pw X) W H0 r) E :=
  hs_cons (M := fun σ H => ∃ d : { d // Ks d }, At (pw X) W H0 (r.set i (.ownD d.1)) σ H) (ps_set hN hi hx he hs hf) (fun σ H a => a.tFD hr fun p H2 ds ks a => ⟨⟨ds, ks⟩, a⟩) (hs_ex fun d => k d.1 d.2)
/-- name[key] = e, name the dict that is being built at slot i -/
theorem hs_dput {oe ke : Expr} {kvs : List (NestedKey × D)} {ks : List NestedKey} (i : Nat) (hu : X.A.units + 64 < cLine) (he : PE X e (tN (pw X) (vis r) K)) (ho : PE X oe (tVar i)) (hk : PE X ke (tD (pw X) (vis r) (kd (.tup ks)))) (hr : r[i]? = some (.ownD kvs)) (hd : (NestedKey.tup ks).depth ≤ 8) (hl : kvs.length < sizeLine)
    (k : ∀ d, K d → Hs X rest (At (pw X) W H0 (r.set i (.ownD (putN kvs (.tup ks) d)))) E) (hs : swapsWith e (some (.Subscript oe ke pos')) pos.line X.env = pure false := by rfl) :
    Hs X (.Assign [.Subscript oe ke pos'] e pos :: rest) (At (pw X) W H0 r) E := by
  refine hs_cons (M := fun σ H => ∃ d : { d // K d }, At (pw X) W H0 (r.set i (.ownD (putN kvs (.tup ks) d.1))) σ H) (ps_putN hu ho hk he hs) (fun σ H a => ?_) (hs_ex fun d => k d.1 d.2)
  have hi : i < r.length := (List.getElem?_eq_some_iff.mp hr).1
  obtain ⟨own, a⟩ := a
  refine ⟨W.adds (OwnS own), a.slots, a.ok', fun v H1 d kd e1 rv => ?_⟩
  have a1 := a.go (Ext.adds.mp e1)
  obtain ⟨p, o, es, h1, h2, h3, h0, h4, h5⟩ := a1.sl i _ hr
  refine ⟨.ref p, h2, W.adds (OwnS own), a1.slots, a1.ok', fun y H3 dy ky e3 ry => ?_⟩
  subst ky
  have a3 := a1.go (Ext.adds.mp e3)
  have h3' : H3 p = some (dO p o) := e3.keep _ _ (a1.nT h1) h3
  have h5' := h5.ext a1.ok' e3
  have rv3 := rv.ext a1.ok' e3
  have kr : KRep (W.adds (OwnS own)) H3 (.tup ks) y := (krep_kd (M := pw X) _ _).mpr ry
  obtain ⟨b, vs, eb, nb, hb, kb⟩ := id kr
  subst eb
  refine ⟨W.adds (OwnS own), p, o, es, kvs, .tup ks, b, rfl, h3', h0, h4, h5', rfl, kr, hd, by rw [h5.length]; exact hl, fun o' u ru he' => ?_⟩
  have cr : Car (W.adds (OwnS own)) (W.adds (OwnS own)) H3 (L2.upd H3 p (dO p o')) := Car.upd (W := W.adds (OwnS own)) (.inr ⟨i, h1⟩)
  have fin := RepKV.put (RepKV.car cr _ _ h5') (KRep.car cr _ _ kr) ru (Rep.car cr _ _ rv3)
  have hsl : SlotOk (pw X) (W.adds (OwnS own)) (L2.upd H3 p (dO p o')) (some p) (.ownD (putN kvs (.tup ks) d)) σ[i]? := ⟨p, o', _, rfl, h2, upd_same, h0, he', fin⟩
  exact ⟨⟨d, kd⟩, a3.upd hi h1 hsl⟩
/-- the name of a slot, read as what it holds -/
theorem ov (i : Nat) {x : Str} {pos : Pos} (hN : X.N[i]? = some x := by rfl) (hv : Vis X.env.scope x := by first | exact Or.inl rfl | exact Or.inr (Or.inl rfl) | exact Or.inr (Or.inr rfl)) (hd : (x == ("__debug__" : Str)) = false := by decide)
    (hcd : (x == ("__classdict__" : Str)) = false := by decide) : PE X (.Name x pos) (tVar i) := pe_var hN hv hd hcd
end
end PD

set_option Elab.async false
set_option linter.all false
set_option maxRecDepth 100000
set_option maxHeartbeats 2000000
/-! Pd10: dicts with nested keys: len, list, update; walks over keys, values, items. -/
namespace PD
open PySem L2 PySem.Spec PyProof.Rows
section
variable {X : Cx} {M : MW} {r : List (Option D)} {K : D → Prop} {e tg : Expr} {pos p apos cpos : Pos} {kvs : List (NestedKey × D)}
theorem Ents.raw {o : Obj} {es : List (NestedKey × Addr × Value)} (h : Ents M o es) {hp : Heap} {a : Addr} (g : hp.get? a = some o) : ∃ raw ep, hp.DictRaw a raw ep ∧ o.data = .dict raw ep ∧ raw.size = es.length ∧ ∀ i (hi : i < raw.size), ∃ y, es[i]? = some y ∧ raw[i].key = .ref y.2.1 ∧ raw[i].val = y.2.2 := by
  obtain ⟨x, ⟨raw, ep, e1, e2⟩, nd, sz, dp⟩ := h
  have hl : raw.size = es.length := size_of_entries e2
  refine ⟨raw, ep, ⟨o, g, x, e1⟩, e1, hl, fun i hi => ?_⟩
  have q := entry_at e2 i
  obtain ⟨y, hy⟩ : ∃ y, es[i]? = some y := ⟨es[i]'(by omega), by simp [show i < es.length by omega]⟩
  rw [hy, Array.getElem?_eq_getElem hi] at q
  have q : raw[i] = entryOfKey (nestedKind M.P M.w) y := by simpa using q
  exact ⟨y, hy, by rw [q]; rfl, by rw [q]; rfl⟩
/-! len -/
def rLenN (M : MW) : List V → Hp → VK → Prop := fun xs H Q => ∃ W kvs x, xs = [x] ∧ Rep M W H (.dct kvs) x ∧ Q (.int (kvs.length : Nat)) H
theorem call_lenN : CallR X (.builtin "len") (rLenN (pw X)) := by
  intro pins s σ H xs us Q I rr h
  obtain ⟨W, kvs, x, rfl, rd, q⟩ := h
  obtain ⟨a, o, es, rfl, n, h1, h0, he, rk⟩ := rd
  obtain ⟨u, rfl, rx⟩ := vals1 rr
  obtain rfl : u = .ref a := rx
  have dd := dct_of I h1 he rk
  have hz := he.2.2.2.1
  refine call_len_dictH h0 dd (by rw [sizeLine_eq] at hz; omega) ?_
  rw [rk.length]
  exact ⟨.int (kvs.length : Nat), H, I.tok _, ⟨_, rfl⟩, q⟩
theorem ed_lenD (hm : X.mg "len" = none) (ha : PA X [e] (tAD (pw X) r [.dct kvs])) (hg : Gl X "len" := by rfl) (he : starEach [e] X.env = (false, eval e X.env) :: starEach [] X.env := by rfl) (hpl : (backTo pos (starEach [] X.env)).any (·.1) = false := by rfl) :
    PE X (.Call (.Name "len" p) [e] [] pos) (tD (pw X) r (.int (kvs.length : Nat))) :=
  ed_callB call_lenN (fun W H vs Q ok rs q => by
    obtain ⟨v, e, rv⟩ := rs.one_of
    exact ⟨W, kvs, v, e, rv, q _ H _ rfl (.refl _ _) rfl⟩) hm boot_len ha hg (by decide) (by decide) he hpl
/-! list(d) -/
def rListN (M : MW) : List V → Hp → VK → Prop := fun xs H Q => ∃ W kvs x, xs = [x] ∧ Rep M W H (.dct kvs) x ∧ ∀ p vs, H p = none → RepL M W H (kvs.map fun q => kd q.1) vs → Q (.ref p) (upd H p (.lst vs))
theorem repKV_keys {W : Wd} {H : Hp} : ∀ {kvs : List (NestedKey × D)} {es : List (NestedKey × Addr × Value)}, RepKV M W H kvs es → RepL M W H (kvs.map fun q => kd q.1) (es.map fun y => V.ref y.2.1)
  | [], es, h => by rw [show es = [] from h]; rfl
  | (k, d) :: r, es, h => by
    obtain ⟨a, u, v, es', e, h1, h2, h3, h4⟩ := h
    subst e
    exact ⟨_, _, rfl, (krep_kd (M := M) _ _).mp h1, repKV_keys h4⟩
theorem call_listN (hc : X.calm = true) : CallR X (.type "list") (rListN (pw X)) := by
  intro pins s σ H xs us Q I rr h
  obtain ⟨W, kvs, x, rfl, rd, q⟩ := h
  obtain ⟨a, o, es, rfl, n, h1, h0, he, rk⟩ := rd
  obtain ⟨u, rfl, rx⟩ := vals1 rr
  obtain rfl : u = .ref a := rx
  obtain ⟨hg, _⟩ := (show ObjOk X.prog X.w H s.heap a (dO a o) from I.hok a _ h1)
  obtain ⟨raw, ep, hr, hd, hl, hi⟩ := he.raw hg
  have hz := he.2.2.2.1
  refine PySem.W.kdl_call (KdlSrc.rawDict (d := a) (es := raw) (ep := ep) h0) (I.ok.hd hc) hr (by rw [hl]; exact hz) fun h' tk acc' c' hkeep hS hacc => ?_
  refine ⟨.ref s.heap.objs.size, upd H s.heap.objs.size (.lst (es.map fun y => V.ref y.2.1)), I.laid hkeep (Nat.le_refl _) (show ObjOk X.prog X.w _ _ _ (.lst (es.map fun y => V.ref y.2.1)) from ⟨?_, acc'.toList, c', ?_, ?_⟩), rfl, q _ _ (I.hok.fresh (Nat.le_refl _)) (repKV_keys rk)⟩
  · rw [List.length_map]; exact hz
  · have el : acc'.toList.length = acc'.size := by simp
    refine vals_of_at (by rw [List.length_map, el, hacc.1, hl]) fun j x w g1 g2 => ?_
    obtain ⟨hj, hw⟩ := hacc.2 j w (by rw [← Array.getElem?_toList]; exact g2)
    obtain ⟨y, hy, hk, _⟩ := hi j hj
    rw [List.getElem?_map, hy] at g1
    have g1 : V.ref y.2.1 = x := by simpa using g1
    subst g1
    rw [hw, hk]
    rfl
  · rw [Array.toArray_toList]; exact hS
theorem ef_listN {x : Str} (hc : X.calm = true) (hm : X.mg "list" = none) (ha : PA X [e] (tAD (pw X) r [.dct kvs])) (hg : Gl X "list" := by rfl) (he : starEach [e] X.env = (false, eval e X.env) :: starEach [] X.env := by rfl) (hpl : (backTo pos (starEach [] X.env)).any (·.1) = false := by rfl) :
    PE X (.Call (.Name "list" p) [e] [] pos) (tF (pw X) r (fun ds => ds = kvs.map fun q => kd q.1)) :=
  (pe_callTy (call_listN hc) hg hm boot_list ha (by decide) (by decide) he hpl).wk fun σ H Q ⟨W, hs, ok, q⟩ => ⟨W, hs, ok, fun vs H1 ds kd' e1 rs => by
    subst kd'
    obtain ⟨v, e, rv⟩ := rs.one_of
    refine ⟨W, kvs, v, e, rv, fun p us hp ru => q p us _ _ rfl (e1.free ok hp) (e1.trans (.new hp)) upd_same ?_⟩
    exact RepL.car ((Car.new hp).trans (Car.upd (W := W.add p) (.inr rfl))) _ _ ru⟩
/-! for k in d; d.values(); d.items() -/
def ItKeysN (d : Addr) (o : Obj) (es : List (NestedKey × Addr × Value)) : It :=
  ⟨fun i H => H d = some (dO d o) ∧ i < es.length, fun i H x H' => H' = H ∧ ∃ y, es[i]? = some y ∧ x = .ref y.2.1, fun i H => H d = some (dO d o) ∧ es.length ≤ i⟩
def ItValsN (d : Addr) (o : Obj) (es : List (NestedKey × Addr × Value)) : It :=
  ⟨fun i H => H d = some (dO d o) ∧ i < es.length, fun i H x H' => H' = H ∧ ∃ y, es[i]? = some y ∧ RelV x y.2.2, fun i H => H d = some (dO d o) ∧ es.length ≤ i⟩
def ItItemsN (d : Addr) (o : Obj) (es : List (NestedKey × Addr × Value)) : It :=
  ⟨fun i H => H d = some (dO d o) ∧ i < es.length, fun i H x H' => ∃ T y z, es[i]? = some y ∧ RelV z y.2.2 ∧ x = .ref T ∧ H T = none ∧ H' = upd H T (.tup [.ref y.2.1, z]), fun i H => H d = some (dO d o) ∧ es.length ≤ i⟩
end
section
variable {P : Program} {w : World} {KK : PySem.W.Frag} {tg : Expr} {d : Addr} {o : Obj} {es : List (NestedKey × Addr × Value)}
theorem turn_keysN (it : Addr) {raw : Array DictEntry} {ep : Nat} (he : Ents ⟨P, w⟩ o es) (hod : o.data = .dict raw ep) : Turn P w KK tg (ItKeysN d o es) [it] it (fun i h => h.IsKeyIter it d i es.length ep) where
  mem := by simp
  obj := fun i h st b hb => by
    have e : b = it := by simpa using hb
    subst e
    obtain ⟨oi, e, c, dd⟩ := st
    exact ⟨oi, e, fun v z => by rw [dd] at z; cases z⟩
  keep := fun i h h' st k => st.at fun oi e => k it (by simp) oi e
  item := by
    intro X hP hw hK hc i pins s σ H E I hf st hg
    subst hP hw hK
    obtain ⟨hd, hi⟩ := hg
    obtain ⟨f0, f1, f2, f3, f4, f5⟩ := hf it (by simp)
    obtain ⟨hgd, _⟩ := (show ObjOk X.prog X.w H s.heap d (dO d o) from I.hok d _ hd)
    obtain ⟨raw', ep', hr, hdt, hsz, ent⟩ := he.raw hgd
    obtain ⟨rfl, rfl⟩ := dict_ep hod hdt
    obtain ⟨y, hy, hkey, _⟩ := ent i (by omega)
    refine next_key_item st hgd hdt hsz (Array.getElem?_eq_getElem (by omega)) fun h' st' sb => ?_
    have I1 : Inv X pins σ H { s with heap := h' } := I.turned (t' := s.toks) (fun b ob hb e => (sb.2 b hb).trans e) f0 f1 f3 f4 f5
    obtain ⟨oi, e, c, dd⟩ := id st'
    exact ⟨_, rfl, go_of (s := { s with heap := h' }) e c dd (by decide) ⟨.ref y.2.1, H, I1, hkey, ⟨rfl, y, hy, rfl⟩, st', fun b hb => (hf b hb).1⟩⟩
  done := by
    intro X hP hw hK hc i pins s σ H E I hf st hg
    subst hP hw hK
    obtain ⟨hd, hi⟩ := hg
    obtain ⟨f0, f1, f2, f3, f4, f5⟩ := hf it (by simp)
    obtain ⟨hgd, _⟩ := (show ObjOk X.prog X.w H s.heap d (dO d o) from I.hok d _ hd)
    obtain ⟨raw', ep', hr, hdt, hsz, ent⟩ := he.raw hgd
    obtain ⟨rfl, rfl⟩ := dict_ep hod hdt
    exact next_key_end (I.ok.hd hc) st hgd hdt hsz hi fun h' eb => ⟨rfl, I.turned (t' := s.toks) (fun b ob hb e => eb b ob hb e) f0 f1 f3 f4 f5⟩
  self := fun A i s Q E st h => by
    refine wpAny_pyIter_slot st.typeIs F.slot_dict_keyiterator_iter (wpAny_call_entry F.slot_dict_keyiterator_iter st.typeIs F.entry_dict_keyiterator_iter ?_ (F.args_dict_keyiterator_iter_1 _))
    show wpAny _ _ (ret (.ref it)) _ _ s
    exact wpAny_pure ⟨_, rfl, "dict_keyiterator", _, st.typeIs, F.slot_dict_keyiterator_next.lookup, h⟩
theorem turn_valsN (it : Addr) {raw : Array DictEntry} {ep : Nat} (he : Ents ⟨P, w⟩ o es) (hv : ∀ y ∈ es, ∃ z, RelV z y.2.2) (hod : o.data = .dict raw ep) : Turn P w KK tg (ItValsN d o es) [it] it (fun i h => h.IsValIter it d i es.length ep) where
  mem := by simp
  obj := fun i h st b hb => by
    have e : b = it := by simpa using hb
    subst e
    obtain ⟨oi, e, c, dd⟩ := st
    exact ⟨oi, e, fun v z => by rw [dd] at z; cases z⟩
  keep := fun i h h' st k => st.at fun oi e => k it (by simp) oi e
  item := by
    intro X hP hw hK hc i pins s σ H E I hf st hg
    subst hP hw hK
    obtain ⟨hd, hi⟩ := hg
    obtain ⟨f0, f1, f2, f3, f4, f5⟩ := hf it (by simp)
    obtain ⟨hgd, _⟩ := (show ObjOk X.prog X.w H s.heap d (dO d o) from I.hok d _ hd)
    obtain ⟨raw', ep', hr, hdt, hsz, ent⟩ := he.raw hgd
    obtain ⟨rfl, rfl⟩ := dict_ep hod hdt
    obtain ⟨y, hy, _, hval⟩ := ent i (by omega)
    obtain ⟨z, hz⟩ := hv y (List.mem_of_getElem? hy)
    rw [← hsz] at st
    refine wpAny_pyNext_values_item_raw st hr (by omega) fun h' st' sb => ?_
    have I1 : Inv X pins σ H { s with heap := h' } := I.turned (t' := s.toks) (fun b ob hb e => (sb.2 b hb).trans e) f0 f1 f3 f4 f5
    obtain ⟨oi, e, c, dd⟩ := id st'
    refine ⟨_, rfl, go_of (s := { s with heap := h' }) e c dd (by decide) ⟨z, H, I1, by rw [hval]; exact hz, ⟨rfl, y, hy, hz⟩, ?_, fun b hb => (hf b hb).1⟩⟩
    rw [← hsz]
    exact st'
  done := by
    intro X hP hw hK hc i pins s σ H E I hf st hg
    subst hP hw hK
    obtain ⟨hd, hi⟩ := hg
    obtain ⟨f0, f1, f2, f3, f4, f5⟩ := hf it (by simp)
    obtain ⟨hgd, _⟩ := (show ObjOk X.prog X.w H s.heap d (dO d o) from I.hok d _ hd)
    obtain ⟨raw', ep', hr, hdt, hsz, ent⟩ := he.raw hgd
    obtain ⟨rfl, rfl⟩ := dict_ep hod hdt
    rw [← hsz] at st
    exact wpAny_pyNext_values_end_raw (I.ok.hd hc) st hr (by omega) fun h' eb => ⟨rfl, I.turned (t' := s.toks) (fun b ob hb e => eb b ob hb e) f0 f1 f3 f4 f5⟩
  self := fun A i s Q E st h => wpAny_pyIter_valiter st h
theorem turn_itemsN {elts : List Expr} {kk : Nat} {tpos : Pos} (it : Addr) {raw : Array DictEntry} {ep : Nat} (he : Ents ⟨P, w⟩ o es) (hv : ∀ y ∈ es, ∃ z, RelV z y.2.2) (hod : o.data = .dict raw ep) :
    Turn P w KK (.Tuple elts kk tpos) (ItItemsN d o es) [it] it (fun i h => ∃ ok ov, IsItemIter h it d i es.length ep ok ov) where
  mem := by simp
  obj := fun i h st b hb => by
    have e : b = it := by simpa using hb
    subst e
    obtain ⟨ok, ov, e⟩ := st
    exact ⟨_, e, fun v z => nomatch z⟩
  keep := fun i h h' st k => let ⟨ok, ov, e⟩ := st; ⟨ok, ov, k it (by simp) _ e⟩
  item := by
    intro X hP hw hK hc i pins s σ H E I hf st hg
    subst hP hw hK
    obtain ⟨hd, hi⟩ := hg
    obtain ⟨hgd, _⟩ := (show ObjOk X.prog X.w H s.heap d (dO d o) from I.hok d _ hd)
    obtain ⟨raw', ep', hr, hdt, hsz, ent⟩ := he.raw hgd
    obtain ⟨rfl, rfl⟩ := dict_ep hod hdt
    obtain ⟨y, hy, hkey, hval⟩ := ent i (by omega)
    obtain ⟨z, hz⟩ := hv y (List.mem_of_getElem? hy)
    obtain ⟨ok, ov, hit⟩ := st
    rw [← hsz] at hit
    have hlt : it < s.heap.objs.size := Heap.lt_size hit
    refine wpAny_pyNext_items_item_raw hit hr (by omega) fun h' ho hT hz' hk => ?_
    refine ⟨_, rfl, wpAny_letOwnedTupleGo_items (s := { s with heap := h' }) ho fun h'' he' sb => ?_⟩
    have hT2 : h''.get? s.heap.objs.size = some { cls := .type "tuple", data := .seq #[raw'[i].key, raw'[i].val] } := (sb.2 _ (Nat.ne_of_gt hlt)).trans hT
    have new : ObjOk X.prog X.w (upd H s.heap.objs.size (.tup [.ref y.2.1, z])) h'' s.heap.objs.size (.tup [.ref y.2.1, z]) :=
      ⟨by show 2 ≤ sizeLine; decide, [raw'[i].key, raw'[i].val], .cons (by rw [hkey]; rfl) (.cons (by rw [hval]; exact hz) .nil), ⟨_, hT2, rfl, _, rfl⟩⟩
    have I1 : Inv X pins σ (upd H s.heap.objs.size (.tup [.ref y.2.1, z])) { s with heap := h'' } :=
      I.turnedNew (t' := s.toks) (ch := [it]) (fun b ob hb e => (sb.2 b (by simpa using hb)).trans (hk b ob (by simpa using hb) e)) hf (Nat.le_refl _) new
    refine ⟨.ref s.heap.objs.size, _, I1, rfl, ⟨_, y, z, hy, hz, rfl, I.hok.fresh (Nat.le_refl _), rfl⟩, ⟨raw'[i].key, raw'[i].val, ?_⟩, fun b hb => ?_⟩
    · rw [← hsz]; exact he'
    · have e : b = it := by simpa using hb
      rw [e, upd_ne (Nat.ne_of_lt hlt)]
      exact (hf it (by simp)).1
  done := by
    intro X hP hw hK hc i pins s σ H E I hf st hg
    subst hP hw hK
    obtain ⟨hd, hi⟩ := hg
    obtain ⟨f0, f1, f2, f3, f4, f5⟩ := hf it (by simp)
    obtain ⟨hgd, _⟩ := (show ObjOk X.prog X.w H s.heap d (dO d o) from I.hok d _ hd)
    obtain ⟨raw', ep', hr, hdt, hsz, ent⟩ := he.raw hgd
    obtain ⟨rfl, rfl⟩ := dict_ep hod hdt
    obtain ⟨ok, ov, hit⟩ := st
    rw [← hsz] at hit
    exact wpAny_pyNext_items_end_raw (I.ok.hd hc) hit hr (by omega) fun h' eb => ⟨rfl, I.turned (t' := s.toks) (fun b ob hb e => eb b ob hb e) f0 f1 f3 f4 f5⟩
  self := fun A i s Q E st h => let ⟨_, _, e⟩ := st; PySem.W.kcp_self e h
end
end PD

set_option Elab.async false
set_option linter.all false
set_option maxRecDepth 100000
set_option maxHeartbeats 2000000
/-! Pd11: dicts with nested keys: the loops' rules, update. -/
namespace PD
open PySem L2 PySem.Spec PyProof.Rows
section
variable {M : MW} {W : Wd} {H1 : Hp} {a : Addr} {o : Obj} {kvs : List (NestedKey × D)} {es : List (NestedKey × Addr × Value)}
theorem RepKV.getI {H : Hp} {kvs : List (NestedKey × D)} {es : List (NestedKey × Addr × Value)} {i : Nat} {y : NestedKey × Addr × Value} (r : RepKV M W H kvs es) (h : es[i]? = some y) : ∃ k d v, kvs[i]? = some (k, d) ∧ k = y.1 ∧ KRep W H k (.ref y.2.1) ∧ RelV v y.2.2 ∧ Rep M W H d v := by
  have hl := r.length
  have hi : i < es.length := (List.getElem?_eq_some_iff.mp h).1
  obtain ⟨⟨k, d⟩, hk⟩ : ∃ p, kvs[i]? = some p := ⟨kvs[i]'(by omega), by simp [show i < kvs.length by omega]⟩
  obtain ⟨b, u, v, h1, h2, h3, h4⟩ := r.get hk
  rw [h] at h1
  cases h1
  exact ⟨k, d, v, hk, rfl, h2, h3, h4⟩
theorem itd_keysN (n : ¬ W.S a) (h : H1 a = some (dO a o)) (r : RepKV M W H1 kvs es) : ItD M W H1 (ItKeysN a o es) (kvs.map fun q => kd q.1) where
  go := fun W' i H s hi => by
    obtain ⟨h1, _⟩ := s.car.keep a _ n h
    rw [List.length_map] at hi
    exact ⟨h1, by rw [r.length]; exact hi⟩
  stop := fun W' H s => by
    obtain ⟨h1, _⟩ := s.car.keep a _ n h
    exact ⟨h1, by rw [r.length, List.length_map]; exact Nat.le_refl _⟩
  yld := fun W' i H x H' s hi y => by
    obtain ⟨e, y, hy, ex⟩ := y
    subst e; subst ex
    obtain ⟨k, d, v, g1, g2, g3, g4, g5⟩ := (RepKV.car s.car kvs es r).getI hy
    exact ⟨Same.refl _, kd k, by rw [List.getElem?_map, g1]; rfl, (krep_kd (M := M) _ _).mp g3⟩
theorem itd_valsN (n : ¬ W.S a) (h : H1 a = some (dO a o)) (r : RepKV M W H1 kvs es) : ItD M W H1 (ItValsN a o es) (kvs.map fun q => q.2) where
  go := fun W' i H s hi => by
    obtain ⟨h1, _⟩ := s.car.keep a _ n h
    rw [List.length_map] at hi
    exact ⟨h1, by rw [r.length]; exact hi⟩
  stop := fun W' H s => by
    obtain ⟨h1, _⟩ := s.car.keep a _ n h
    exact ⟨h1, by rw [r.length, List.length_map]; exact Nat.le_refl _⟩
  yld := fun W' i H x H' s hi y => by
    obtain ⟨e, y, hy, ex⟩ := y
    subst e
    obtain ⟨k, d, v, g1, g2, g3, g4, g5⟩ := (RepKV.car s.car kvs es r).getI hy
    rw [ex.inj g4]
    exact ⟨Same.refl _, d, by rw [List.getElem?_map, g1]; rfl, g5⟩
def itemD (q : NestedKey × D) : D := .tup [kd q.1, q.2]
theorem itd_itemsN (n : ¬ W.S a) (h : H1 a = some (dO a o)) (r : RepKV M W H1 kvs es) : ItD M W H1 (ItItemsN a o es) (kvs.map itemD) where
  go := fun W' i H s hi => by
    obtain ⟨h1, _⟩ := s.car.keep a _ n h
    rw [List.length_map] at hi
    exact ⟨h1, by rw [r.length]; exact hi⟩
  stop := fun W' H s => by
    obtain ⟨h1, _⟩ := s.car.keep a _ n h
    exact ⟨h1, by rw [r.length, List.length_map]; exact Nat.le_refl _⟩
  yld := fun W' i H x H' s hi y => by
    obtain ⟨T, y, z, hy, hz, ex, hT, eH⟩ := y
    subst eH; subst ex
    obtain ⟨k, d, v, g1, g2, g3, g4, g5⟩ := (RepKV.car s.car kvs es r).getI hy
    rw [hz.inj g4]
    have sm : Same H (upd H T (.tup [.ref y.2.1, v])) := fun c o e => by rw [upd_ne (ne_of_none e hT)]; exact e
    have nT : ¬ W'.S T := fun q => by
      obtain ⟨o, e⟩ := s.tr T q
      rw [hT] at e; cases e
    refine ⟨sm, itemD (k, d), by rw [List.getElem?_map, g1]; rfl, T, _, rfl, nT, upd_same, ?_⟩
    have cr : Car W' W' H (upd H T (.tup [.ref y.2.1, v])) := ⟨fun c o n e => ⟨sm c o e, n⟩, fun _ t => t⟩
    exact ⟨_, _, rfl, Rep.car cr _ _ ((krep_kd (M := M) _ _).mp g3), _, [], rfl, Rep.car cr _ _ g5, rfl⟩
theorem repKV_vals {H : Hp} (r : RepKV M W H kvs es) : ∀ y ∈ es, ∃ z, RelV z y.2.2 := fun y hy => by
  obtain ⟨i, hi⟩ := List.mem_iff_getElem?.mp hy
  obtain ⟨k, d, v, g1, g2, g3, g4, g5⟩ := r.getI hi
  exact ⟨v, g4⟩
end
section
variable {X : Cx} {r : List (Option D)} {K : D → Prop} {e tg : Expr} {pos p apos cpos tpos : Pos} {kvs : List (NestedKey × D)} {elts : List Expr} {kk : Nat}
/-- for k in d -/
theorem ei_keysN (h : PE X e (tD (pw X) r (.dct kvs))) : PI X tg e (tI (pw X) r (kvs.map fun q => kd q.1)) := by
  refine ⟨fun pins s σ H R I ⟨W, hs, ok, q⟩ => ?_⟩
  refine thn (h.run pins s σ H (fun v H1 => Ext W H H1 ∧ Rep (pw X) W H1 (.dct kvs) v) I ⟨W, hs, ok, fun v H1 d kd e1 rv => ⟨e1, by rw [← kd]; exact rv⟩⟩) fun u s1 ⟨x, H1, I1, rx, e1, rv⟩ => ?_
  obtain ⟨a, o, es, ex, n, h1, h0, he, rk⟩ := rv
  subst ex
  obtain rfl : u = Value.ref a := rx
  obtain ⟨hg, _⟩ := (show ObjOk X.prog X.w H1 s1.heap a (dO a o) from I1.hok a _ h1)
  obtain ⟨raw, ep, hr, hdt, hsz, ent⟩ := he.raw hg
  refine iter_keys h0 hg he.1 hdt (pi_one (tk := s1.toks) I1 _ (turn_keysN _ he hdt) ⟨_, Heap.get?_push_size _ rfl, rfl, ?_⟩ (q _ H1 _ rfl e1 (itd_keysN n h1 rk)))
  rw [hsz] <;> rfl
theorem ei_valsN (h : PE X e (tD (pw X) r (.dct kvs))) (hbase : attributeBase e "values" X.env (eval e X.env) = eval e X.env := by rfl) (hline : (apos.endLine == cpos.line) = true := by rfl) : PI X tg (.Call (.Attribute e "values" apos) [] [] cpos) (tI (pw X) r (kvs.map fun q => q.2)) := by
  refine ⟨fun pins s σ H R I ⟨W, hs, ok, q⟩ => ?_⟩
  refine wpAny_Call_method (T := "dict") (id := "dict.values") hbase rfl hline F.plainAttrs_dict F.slot_dict_values F.type_dict_values (thn (h.run pins s σ H (fun v H1 => Ext W H H1 ∧ Rep (pw X) W H1 (.dct kvs) v) I ⟨W, hs, ok, fun v H1 d kd e1 rv => ⟨e1, by rw [← kd]; exact rv⟩⟩) fun u s1 ⟨x, H1, I1, rx, e1, rv⟩ => ?_)
  obtain ⟨a, o, es, ex, n, h1, h0, he, rk⟩ := rv
  subst ex
  obtain rfl : u = Value.ref a := rx
  obtain ⟨hg, _⟩ := (show ObjOk X.prog X.w H1 s1.heap a (dO a o) from I1.hok a _ h1)
  obtain ⟨raw, ep, hr, hdt, hsz, ent⟩ := he.raw hg
  refine ⟨⟨o, hg, he.1.1⟩, (fun b q => by cases q; exact ⟨o, hg, he.1.2.1⟩), ?_⟩
  have I2 : Inv X pins σ H1 { s1 with heap := s1.heap.push { cls := .type "dict_values", data := .fields #[.ref a] } } := I1.kept (t' := s1.toks) fun b ob q => Heap.get?_push_of_some _ q
  have fin : wpAny (model X.prog X.w) X.A (pyIter (.ref s1.heap.objs.size)) (PIE X pins σ tg R) X.xe { s1 with heap := s1.heap.push { cls := .type "dict_values", data := .fields #[.ref a] } } := by
    refine wpAny_pyIter_values_raw (d := a) ⟨_, Heap.get?_push_size _ rfl, rfl, rfl⟩ (hr.push _) (pi_one (tk := s1.toks) I2 _ (turn_valsN _ he (repKV_vals rk) hdt) ⟨_, Heap.get?_push_size _ rfl, rfl, ?_⟩ (q _ H1 _ rfl e1 (itd_valsN n h1 rk)))
    rw [hsz] <;> rfl
  show wpAny _ _ (callWith cpos (.builtin "dict.values") [.ref a] [] []) _ X.xe s1
  exact method_meetsIn F.slot_dict_values F.entry_dict_values rfl (PySem.evalArgs_none ⟨rfl, ⟨o, hg, he.1.1⟩, F.args_dict_values_1 _, _, meets_dict_values_raw a h0, ⟨⟨raw, ep, hr⟩, fin⟩⟩)
theorem ei_itemsN (h : PE X e (tD (pw X) r (.dct kvs))) (hbase : attributeBase e "items" X.env (eval e X.env) = eval e X.env := by rfl) (hline : (apos.endLine == cpos.line) = true := by rfl) : PI X (.Tuple elts kk tpos) (.Call (.Attribute e "items" apos) [] [] cpos) (tI (pw X) r (kvs.map itemD)) := by
  refine ⟨fun pins s σ H R I ⟨W, hs, ok, q⟩ => ?_⟩
  refine wpAny_Call_method (T := "dict") (id := "dict.items") hbase rfl hline F.plainAttrs_dict F.slot_dict_items F.type_dict_items (thn (h.run pins s σ H (fun v H1 => Ext W H H1 ∧ Rep (pw X) W H1 (.dct kvs) v) I ⟨W, hs, ok, fun v H1 d kd e1 rv => ⟨e1, by rw [← kd]; exact rv⟩⟩) fun u s1 ⟨x, H1, I1, rx, e1, rv⟩ => ?_)
  obtain ⟨a, o, es, ex, n, h1, h0, he, rk⟩ := rv
  subst ex
  obtain rfl : u = Value.ref a := rx
  obtain ⟨hg, _⟩ := (show ObjOk X.prog X.w H1 s1.heap a (dO a o) from I1.hok a _ h1)
  obtain ⟨raw, ep, hr, hdt, hsz, ent⟩ := he.raw hg
  refine ⟨⟨o, hg, he.1.1⟩, (fun b q => by cases q; exact ⟨o, hg, he.1.2.1⟩), ?_⟩
  have I2 : Inv X pins σ H1 { s1 with heap := s1.heap.push { cls := .type "dict_items", data := .fields #[.ref a] } } := I1.kept (t' := s1.toks) fun b ob q => Heap.get?_push_of_some _ q
  have fin : wpAny (model X.prog X.w) X.A (pyIter (.ref s1.heap.objs.size)) (PIE X pins σ (.Tuple elts kk tpos) R) X.xe { s1 with heap := s1.heap.push { cls := .type "dict_items", data := .fields #[.ref a] } } := by
    refine wpAny_pyIter_items_raw (d := a) ⟨_, Heap.get?_push_size _ rfl, rfl, rfl⟩ (hr.push _) (pi_one (tk := s1.toks) I2 _ (turn_itemsN _ he (repKV_vals rk) hdt) ⟨.none, .none, ?_⟩ (q _ H1 _ rfl e1 (itd_itemsN n h1 rk)))
    rw [← hsz]
    exact Heap.get?_push_size _ rfl
  show wpAny _ _ (callWith cpos (.builtin "dict.items") [.ref a] [] []) _ X.xe s1
  exact method_meetsIn F.slot_dict_items F.entry_dict_items rfl (PySem.evalArgs_none ⟨rfl, ⟨o, hg, he.1.1⟩, F.args_dict_items_1 _, _, meets_dict_items_raw a h0, ⟨⟨raw, ep, hr⟩, fin⟩⟩)
/-! d.update(e) -/
theorem repKV_merge {M : MW} {W : Wd} {H : Hp} : ∀ {more : List (NestedKey × D)} {ms : List (NestedKey × Addr × Value)} {kvs : List (NestedKey × D)} {es : List (NestedKey × Addr × Value)}, RepKV M W H kvs es → RepKV M W H more ms → RepKV M W H (mergeN kvs more) (storedAllH es ms)
  | [], ms, kvs, es, r, q => by rw [show ms = [] from q]; exact r
  | (k, d) :: more, ms, kvs, es, r, q => by
    obtain ⟨a, u, v, ms', e, h1, h2, h3, h4⟩ := q
    subst e
    have h := repKV_merge (r.put h1 h2 h3) h4
    exact h
theorem len_storedAllH (ms : List (NestedKey × Addr × Value)) : ∀ es : List (NestedKey × Addr × Value), (storedAllH es ms).length ≤ es.length + ms.length := by
  induction ms with
  | nil => intro es; exact Nat.le_refl _
  | cons m ms ih =>
    intro es
    have h := ih (storedH es m.1 m.2.1 m.2.2)
    have g := len_storedH es m.1 m.2.1 m.2.2
    show (storedAllH (storedH es m.1 m.2.1 m.2.2) ms).length ≤ _
    rw [List.length_cons]
    omega
def rUpdN (M : MW) (x y : V) (H2 : Hp) (Q : VK) : Prop := ∃ (W W2 : Wd) (a : Addr) (o : Obj) (es : List (NestedKey × Addr × Value)) (kvs more : List (NestedKey × D)),
  x = .ref a ∧ H2 a = some (dO a o) ∧ (a == sysModules) = false ∧ Ents M o es ∧ RepKV M W H2 kvs es ∧ y ≠ .ref a ∧ Rep M W2 H2 (.dct more) y ∧ (kvs ≠ [] ∨ more.length ≤ 1) ∧ kvs.length + more.length ≤ sizeLine ∧
  ∀ o' ms, RepKV M W2 H2 more ms → Ents M o' (storedAllH es ms) → Q .non (L2.upd H2 a (dO a o'))
def rUpdL (M : MW) (x : V) (Q : VK) : List V → Hp → Prop
  | [y], H2 => rUpdN M x y H2 Q
  | _, _ => False
def tUpdN (M : MW) (td te : TE) : TE := fun σ H Q => td σ H fun x H1 => (∃ a o, x = .ref a ∧ H1 a = some (dO a o) ∧ o.ExactDict) ∧ te σ H1 fun y H2 => rUpdN M x y H2 Q
theorem pe_updN {oe ae : Expr} {td te : TE} (hu : X.A.units + 64 < cLine) (ho : PE X oe td) (ha : PE X ae te) (hbase : attributeBase oe "update" X.env (eval oe X.env) = eval oe X.env := by rfl)
    (hline : (apos.endLine == cpos.line) = true := by rfl) (hst : starEach [ae] X.env = (false, eval ae X.env) :: starEach [] X.env := by rfl) : PE X (.Call (.Attribute oe "update" apos) [ae] [] cpos) (tUpdN (pw X) td te) := by
  refine ⟨fun pins s σ H Q I h => ?_⟩
  refine wpAny_Call_method_late (trees := backTo cpos (starEach [ae] X.env)) hbase (by rw [hst]; rfl) hline rfl (thn (ho.run pins s σ H _ I h) fun v s1 ⟨x, H1, I1, r1, ⟨a, o, ex, h1, hx⟩, q1⟩ => ?_)
  subst ex
  obtain rfl : v = Value.ref a := r1
  obtain ⟨hg, _⟩ := (show ObjOk X.prog X.w H1 s1.heap a (dO a o) from I1.hok a _ h1)
  refine ⟨"dict", "dict.update", F.plainAttrs_dict, F.slot_dict_update, F.type_dict_update, ⟨o, hg, hx.1⟩, (fun b q => by cases q; exact ⟨o, hg, hx.2.1⟩), ?_⟩
  have hA := (pa_cons ha pa_nil hst).run cpos pins s1 σ H1 (rUpdL (pw X) (.ref a) Q) I1 q1
  rw [hst] at hA ⊢
  refine Calls.callWith_builtin (by rfl) (Calls.evalArgs_plain ?_)
  refine thn hA fun us s2 ⟨vs, H2, I2, r2, q2⟩ => ?_
  match vs, q2 with
  | [y], q2 =>
    obtain ⟨W, W2, a', o', es, kvs, more, ex, g1, g0, ge, gk, hne, ry, hcl, hz, q3⟩ := q2
    cases ex
    obtain ⟨u, rfl, ru⟩ := vals1 r2
    obtain ⟨b, ob, ms, eb, nb, b1, b0, be, bk⟩ := ry
    subst eb
    obtain rfl : u = Value.ref b := ru
    have dd := dct_of I2 g1 ge gk
    have db := dct_of I2 b1 be bk
    have hab : a ≠ b := fun z => hne (by rw [z])
    have hem : kvs = [] → es = [] := fun z => by
      have := gk.length
      rw [z] at this
      exact List.length_eq_zero_iff.mp this
    refine call_update_dictH (knd := nk (pw X)) (show X.A.units + 1 + 8 < cLine by omega) hab b0 dd db ?_ (by rw [gk.length, bk.length]; exact hz) fun h' hd' _ sb => ?_
    · rcases hcl with c | c
      · refine .inl fun z => c ?_
        have := gk.length
        rw [z] at this
        exact List.length_eq_zero_iff.mp this.symm
      · refine .inr ⟨fun y hy => ?_, ?_⟩
        · obtain ⟨_, _, _, _, _, _, _, his, _⟩ := id db
          exact (nestedKind_stays (prog := X.prog) (w := X.w)).tuple (his y hy)
        · have hl : ms.length ≤ 1 := by rw [bk.length]; exact c
          match ms, hl with
          | [], _ => exact List.nodup_nil
          | [z], _ => exact List.nodup_cons.mpr ⟨(fun m => by cases m), List.nodup_nil⟩
          | _ :: _ :: _, hl => exact absurd hl (by simp)
    · obtain ⟨o2, ho2, he2⟩ := ents_of hd' (by
        have h1 := len_storedAllH ms es
        have h2 := gk.length
        have h3 := bk.length
        omega)
      exact ⟨.non, _, I2.write (t' := s2.toks) (x := a) (e := a) (by rw [g1]; exact True.intro) (.inl rfl) (fun c q hc z => (sb.2 c hc).trans z) ⟨_, ho2⟩ (dO_ok ho2), rfl, q3 o2 ms bk he2⟩
  | [], q2 => exact q2.elim
  | _ :: _ :: _, q2 => exact q2.elim
/-- name.update(e), name the dict that is being built at slot i -/
theorem hs_upd {W : Wd} {H0 : Hp} {r : List Slot} {rest : List Stmt} {E : Ends} {oe ae : Expr} {kvs more : List (NestedKey × D)} (i : Nat) (hu : X.A.units + 64 < cLine) (ho : PE X oe (tVar i)) (he : PE X ae (tD (pw X) (vis r) (.dct more))) (hr : r[i]? = some (.ownD kvs)) (hcl : kvs ≠ [] ∨ more.length ≤ 1) (hz : kvs.length + more.length ≤ sizeLine)
    (k : Hs X rest (At (pw X) W H0 (r.set i (.ownD (mergeN kvs more)))) E) (hbase : attributeBase oe "update" X.env (eval oe X.env) = eval oe X.env := by rfl)
    (hs : swapsWith (.Call (.Attribute oe "update" apos) [ae] [] cpos) none pos.line X.env = pure false := by rfl)
    (hline : (apos.endLine == cpos.line) = true := by rfl) (hst : starEach [ae] X.env = (false, eval ae X.env) :: starEach [] X.env := by rfl) :
    Hs X (.Expr (.Call (.Attribute oe "update" apos) [ae] [] cpos) pos :: rest) (At (pw X) W H0 r) E := by
  refine hs_cons (M := At (pw X) W H0 (r.set i (.ownD (mergeN kvs more)))) (ps_expr (pe_updN hu ho he hbase hline hst) hs) (fun σ H a => ?_) k
  have hi : i < r.length := (List.getElem?_eq_some_iff.mp hr).1
  obtain ⟨own, a⟩ := a
  obtain ⟨p, o, es, h1, h2, h3, h0, h4, h5⟩ := a.sl i _ hr
  refine ⟨.ref p, h2, ⟨p, o, rfl, h3, h4.1⟩, W.adds (OwnS own), a.slots, a.ok', fun y H2 d kd e rv => ?_⟩
  subst kd
  have h3' : H2 p = some (dO p o) := e.keep _ _ (a.nT h1) h3
  have h5' := h5.ext a.ok' e
  have a2 := a.go (Ext.adds.mp e)
  have hne : y ≠ .ref p := fun z => by
    obtain ⟨b, ob, ms, eb, nb, _⟩ := rv
    rw [eb] at z
    cases z
    exact nb (.inr ⟨i, h1⟩)
  refine ⟨W.adds (OwnS own), W.adds (OwnS own), p, o, es, kvs, more, rfl, h3', h0, h4, h5', hne, rv, hcl, hz, fun o' ms hm he' => ?_⟩
  have cr : Car (W.adds (OwnS own)) (W.adds (OwnS own)) H2 (L2.upd H2 p (dO p o')) := Car.upd (W := W.adds (OwnS own)) (.inr ⟨i, h1⟩)
  have fin := repKV_merge (RepKV.car cr _ _ h5') (RepKV.car cr _ _ hm)
  have hsl : SlotOk (pw X) (W.adds (OwnS own)) (L2.upd H2 p (dO p o')) (some p) (.ownD (mergeN kvs more)) σ[i]? := ⟨p, o', _, rfl, h2, upd_same, h0, he', fin⟩
  exact a2.upd hi h1 hsl
end
end PD

set_option Elab.async false
set_option linter.all false
set_option maxRecDepth 100000
set_option maxHeartbeats 2000000
/-! Pd12: dict comprehensions with nested keys, one clause and two (turned from the list's and the dict's of the layer). -/
namespace PD
open PySem L2 PySem.Spec PyProof.Rows
def rPutX (M : MW) (D : Addr) (y z : V) (H : Hp) (Nx : Hp → Prop) : Prop := ∃ (W : Wd) (o : Obj) (es : List (NestedKey × Addr × Value)) (kvs : List (NestedKey × PD.D)) (k : NestedKey) (b : Addr),
  H D = some (dO D o) ∧ Ents M o es ∧ RepKV M W H kvs es ∧ y = .ref b ∧ KRep W H k y ∧ k.depth ≤ 8 ∧ es.length < sizeLine ∧ ∀ o' u, RelV z u → Ents M o' (storedH es k b u) → Nx (L2.upd H D (dO D o'))
theorem dictSetN {X : Cx} {pins : List (Addr × Obj)} {σ : L2.St} {H : Hp} {s : Shared} {E : Value → Shared → Prop} {D : Addr} {y z : V} {u r : Value} {Q : Unit → Shared → Prop} {Nx : Hp → Prop} (hu : X.A.units + 64 < cLine) (I : Inv X pins σ H s) (h : rPutX (pw X) D y z H Nx)
    (ry : RelV y u) (rv : RelV z r) (q : ∀ s' H', Inv X pins σ H' s' → Nx H' → Q () s') : wpAny (model X.prog X.w) X.A (dictSet D u r) Q E s := by
  obtain ⟨W, o, es, kvs, k, b, h1, he, rk, ey, hk, hd, hz, nx⟩ := h
  subst ey
  obtain rfl : u = Value.ref b := ry
  have dd := dct_of I h1 he rk
  refine wpAny_dictSet_heap (knd := nk (pw X)) (hsz := Nat.le_of_lt hz) (show X.A.units + 8 < cLine by omega) (key_is I hk hd) dd fun h' dd' sb => ?_
  obtain ⟨o', ho', he'⟩ := ents_of dd' (by have := len_storedH es k b r; omega)
  exact q _ _ (I.write (x := D) (e := D) (by rw [h1]; exact True.intro) (.inl rfl) (fun c q hc z => (sb.2 c hc).trans z) ⟨_, ho'⟩ (dO_ok ho')) (nx o' r rv he')
section
variable {X : Cx}
def tDn (M : MW) (wi : TI) (g : TG) (tt : TT) (tk tv : TE) (vs : List Nat) : TE := fun σ H Q => wi σ H fun J H1 => ∀ D, H1 D = none → (D == sysModules) = false → ∃ W : Nat → Nat → Hp → Prop, (∃ m, W 0 m (L2.upd H1 D (dO D obj0))) ∧ ∀ i m H, W i m H →
  (J.stop i H ∧ Q (.ref D) H) ∨ (J.go i H ∧ ∃ Nx : Hp → Prop, (∀ H', Nx H' → ∃ m', m' < m ∧ W (i + 1) m' H') ∧ ∀ x H', J.yld i H x H' → g x (L2.wipe σ vs) H' fun σ2 H2 => L2.wipe σ2 vs = L2.wipe σ vs ∧ tt σ2 H2 fun b H3 =>
    if b = true then tk σ2 H3 fun y H4 => tv σ2 H4 fun z H5 => rPutX M D y z H5 Nx else Nx H3)
def tDn2 (M : MW) (wi : TI) (g : TG) (tt : TT) (wi1 : TI) (g1 : TG) (tt1 : TT) (tk te : TE) (vs vs1 : List Nat) : TE := fun σ H Q => wi σ H fun J H1 => ∀ D, H1 D = none → (D == sysModules) = false → ∃ W : Nat → Nat → Hp → Prop, (∃ m, W 0 m (L2.upd H1 D (dO D obj0))) ∧ ∀ i m H, W i m H →
  (J.stop i H ∧ Q (.ref D) H) ∨ (J.go i H ∧ ∃ Nx : Hp → Prop, (∀ H', Nx H' → ∃ m', m' < m ∧ W (i + 1) m' H') ∧ ∀ x H', J.yld i H x H' → g x (L2.wipe σ vs) H' fun σ2 H2 => L2.wipe σ2 vs = L2.wipe σ vs ∧ tt σ2 H2 fun b H3 =>
    if b = true then wi1 σ2 H3 fun J1 H4 => ∃ W1 : Nat → Nat → Hp → Prop, (∃ m, W1 0 m H4) ∧ ∀ j k H, W1 j k H →
      (J1.stop j H ∧ Nx H) ∨ (J1.go j H ∧ ∃ Nx1 : Hp → Prop, (∀ H', Nx1 H' → ∃ k', k' < k ∧ W1 (j + 1) k' H') ∧ ∀ x H', J1.yld j H x H' → g1 x (L2.wipe σ2 vs1) H' fun σ3 H5 => L2.wipe σ3 vs1 = L2.wipe σ2 vs1 ∧ tt1 σ3 H5 fun b H6 =>
        if b = true then tk σ3 H6 fun y H7 => te σ3 H7 fun z H8 => rPutX M D y z H8 Nx1 else Nx1 H6)
    else Nx H3)
theorem dn_core {pins : List (Addr × Obj)} {s : Shared} {σ : L2.St} {H : Hp} {Q : VK} {kx vx tg iter : Expr} {ifs : List Expr} {scope : Scope} {own : List (Str × Nat)} {pos pos' : Pos} {wi : TI} {g : TG} {tt : TT} {tk tv : TE} {use : Option (Value → Sem Unit)} {Qf : Value → Shared → Prop}
    (hu : X.A.units + 64 < cLine) (hc : X.calm = true) (hN : X.N.Nodup) (I : Inv X pins σ H s) (hi : PI X tg iter wi) (ok : BlkOk X.N X.env.scope scope own)
    (hg : ∀ (s : Shared) (H : Hp) (C : Addr) (cl : List (Str × Addr)) (fp : List Addr), PG (X.blk s H scope (compEnvC scope cl C X.env) fp) tg g) (ht : ∀ (s : Shared) (H : Hp) (C : Addr) (cl : List (Str × Addr)) (fp : List Addr), PTs (X.blk s H scope (compEnvC scope cl C X.env) fp) ifs tt)
    (hk : ∀ (s : Shared) (H : Hp) (C : Addr) (cl : List (Str × Addr)) (fp : List Addr), PE (X.blk s H scope (compEnvC scope cl C X.env) fp) kx tk)
    (he : ∀ (s : Shared) (H : Hp) (C : Addr) (cl : List (Str × Addr)) (fp : List Addr), PE (X.blk s H scope (compEnvC scope cl C X.env) fp) vx tv) (hs : ∀ x, foldedSetIterable iter X.env x = pure x)
    (h : tDn (pw X) wi g tt tk tv (own.map (·.2)) σ H Q)
    (hRR : ∀ D C s' m H', Inv X pins σ H' s' → Q (.ref D) H' → s'.heap.Ns C m → FpOk X pins H' C → compPost (model X.prog X.w) X.A X.xe use Qf (.ref D) C (.ok .next) s') :
    wpAny (model X.prog X.w) X.A (comprehension (.DictComp kx vx [⟨tg, iter, ifs, 0⟩] scope pos) scope X.env pos' newDict false (eval iter X.env) use) Qf X.xe s := by
  have hfree : ∀ y ∈ scope.names, y.2 = .free → ∃ c, X.env.cells.lookup y.1 = some c := fun y hy e => by
    rcases ok.free y hy e with k | k
    · exact I.ok.has _ (.inl k)
    · exact I.ok.has _ (.inr k)
  refine wpAny_comprehension_free (use := use) rfl hs (closure_ok hfree) ok.kind (fun y hy e => by rw [ok.uniq y hy, e])
    (thn (hi.run pins s σ H _ I h) fun xv s1 hx => thn hx fun itv s2 h2 => ?_)
  obtain ⟨it, fp, tn, J, H2, e, I2, T, st2, f2, q⟩ := h2
  subst e
  refine wpAny_newObj_type (newEnv_comp ?_)
  generalize hD : s2.heap.objs.size = D
  have hDn : H2 D = none := I2.hok.fresh (Nat.le_of_eq hD)
  have hbD : (D == sysModules) = false := by rw [← hD]; exact big_of I2
  obtain ⟨W, ⟨m0, w0⟩, turn⟩ := q D hDn hbD
  -- the new list
  generalize hs3 : ({ s2 with heap := s2.heap.push { cls := .type "dict", data := .dict #[] } } : Shared) = s3
  have I3 : Inv X pins σ (upd H2 D (dO D obj0)) s3 := by
    rw [← hs3]
    refine I2.laid (t' := s2.toks) (fun b o e => Heap.get?_push_of_some _ e) (Nat.le_of_eq hD) ?_
    rw [← hD]
    exact dO_ok (Heap.get?_push_size _ rfl)
  have h3 : s3.heap = s2.heap.push { cls := .type "dict", data := .dict #[] } := by rw [← hs3]
  have sz : ∀ b ∈ fp, b < s2.heap.objs.size := fun b hb => by
    obtain ⟨o, e, _⟩ := T.obj _ _ st2 b hb
    exact Heap.lt_size e
  have f3 : ∀ b ∈ fp, FpOk X pins (upd H2 D (dO D obj0)) b ∧ b < s3.heap.objs.size := fun b hb => by
    have hlt := sz b hb
    refine ⟨⟨?_, (f2 b hb).2⟩, by rw [h3, Heap.size_push]; exact Nat.lt_succ_of_lt hlt⟩
    rw [upd_ne (by rw [← hD]; exact Nat.ne_of_lt hlt)]
    exact (f2 b hb).1
  have st3 : tn 0 s3.heap := T.keep _ _ _ st2 fun b _ o e => by rw [h3]; exact Heap.get?_push_of_some _ e
  have I4 := block_start I3 ok hN f3
  have pg := hg s3 (upd H2 D (dO D obj0)) s3.heap.objs.size (cellsFrom (s3.heap.objs.size + 1) scope.names (cloFrom X.env.cells scope.names [])) fp
  have pt := ht s3 (upd H2 D (dO D obj0)) s3.heap.objs.size (cellsFrom (s3.heap.objs.size + 1) scope.names (cloFrom X.env.cells scope.names [])) fp
  have pk := hk s3 (upd H2 D (dO D obj0)) s3.heap.objs.size (cellsFrom (s3.heap.objs.size + 1) scope.names (cloFrom X.env.cells scope.names [])) fp
  have pe := he s3 (upd H2 D (dO D obj0)) s3.heap.objs.size (cellsFrom (s3.heap.objs.size + 1) scope.names (cloFrom X.env.cells scope.names [])) fp
  show codeAny _ _ (.compStart (.DictComp kx vx [⟨tg, iter, ifs, 0⟩] scope pos) 0 (.ref it) (.ref D) (compEnvC scope (cellsFrom (s3.heap.objs.size + 1) scope.names (cloFrom X.env.cells scope.names [])) s3.heap.objs.size X.env)) (compPost (model X.prog X.w) X.A X.xe use Qf (.ref D) s3.heap.objs.size) { s3 with heap := pushCells (s3.heap.push { cls := .type "dict", data := .dict #[] }) scope.names }
  have nfp : ∀ b ∈ fp, (upd H2 D (dO D obj0)) b = none := fun b hb => (f3 b hb).1.1
  generalize hce : compEnvC scope (cellsFrom (s3.heap.objs.size + 1) scope.names (cloFrom X.env.cells scope.names [])) s3.heap.objs.size X.env = ce at I4 pg pt pk pe ⊢
  have cL : ce.locals = s3.heap.objs.size := by subst hce; rfl
  generalize hH3 : upd H2 D (dO D obj0) = H3 at I3 I4 pg pt pk pe w0 nfp f3
  generalize hs4 : ({ s3 with heap := pushCells (s3.heap.push { cls := .type "dict", data := .dict #[] }) scope.names } : Shared) = s4 at I4 ⊢
  have st4 : tn 0 s4.heap := T.keep _ _ _ st3 fun b _ o e => by rw [← hs4]; exact pushCells_keeps _ _ _ _ (Heap.get?_push_of_some _ e)
  have stat : ∀ {σ' : L2.St} {H' : Hp} {s' : Shared}, Inv (X.blk s3 H3 scope ce fp) [] σ' H' s' → (∀ b ∈ fp, H' b = none) → ∀ b ∈ fp, FpOk (X.blk s3 H3 scope ce fp) [] H' b := fun {σ' H' s'} I' hn b hb =>
    ⟨hn b hb, (I'.ok.exf b hb).1, I'.ok.exfs b hb, .inl hb, fun x c e => (I'.ok.exf b hb).2 x c e, fun p hp => absurd (show p ∈ ([] : List (Addr × Obj)) ++ [] from hp) (by simp)⟩
  have loop : codeAny (model X.prog X.w) X.A (.compLoop (.DictComp kx vx [⟨tg, iter, ifs, 0⟩] scope pos) 0 (.ref it) (.ref D) ce) (compPost (model X.prog X.w) X.A X.xe use Qf (.ref D) s3.heap.objs.size) s4 := by
    refine compLoop_anyD (fun n s' => ∃ i H', Inv (X.blk s3 H3 scope ce fp) [] (L2.wipe σ (own.map (·.2))) H' s' ∧ tn i s'.heap ∧ (∀ b ∈ fp, H' b = none) ∧ W i n H') ?_ m0 ⟨0, H3, I4, st4, nfp, w0⟩
    rintro n s5 ⟨i, H5, I5, st5, n5, w5⟩
    rcases turn i n H5 w5 with ⟨stop, qq⟩ | ⟨go, Nx, hNx, step⟩
    · have td := T.done (X.blk s3 H3 scope ce fp) rfl rfl rfl hc i [] s5 _ H5 (fun _ _ => False) I5 (stat I5 n5) st5 stop
      refine thnF td fun r s6 ⟨hr, I6⟩ => ?_
      subst hr
      -- back in the def's context
      have I7 : Inv X pins σ H5 s6 := I3.call' (ch := fp) I6.os I6.base I6.hok I6.bare fun b hb => ⟨(f3 b hb).1.2.2.2.1, (f3 b hb).1.2.1, (f3 b hb).1.2.2.2.2.1, (f3 b hb).1.2.2.2.2.2⟩
      have nC : H5 s3.heap.objs.size = none := by
        have z : H5 ce.locals = none := I6.free
        rw [cL] at z
        exact z
      obtain ⟨m, hn, _⟩ := I6.loc
      have hn : s6.heap.Ns ce.locals m := hn
      rw [cL] at hn
      exact hRR D s3.heap.objs.size s6 m H5 I7 qq hn (I3.fpOk (Nat.le_refl _) nC)
    · have ti := T.item (X.blk s3 H3 scope ce fp) rfl rfl rfl hc i [] s5 _ H5 (fun _ _ => False) I5 (stat I5 n5) st5 go
      refine thnF ti fun r s6 ⟨u, hr, h6⟩ => ?_
      subst hr
      refine thnF h6 fun _ s7 ⟨x, H7, I7, r7, y7, st7, n7⟩ => ?_
      have I7' := I7.pinned (stat I7 n7) (T.obj _ _ st7)
      refine thnF (pg.run _ s7 _ H7 x u _ I7' r7 (step x H7 y7)) fun _ s8 ⟨σ8, H8, I8, hw8, q8⟩ => ?_
      refine thnF (pt.run _ s8 σ8 H8 _ I8 q8) fun b s9 ⟨H9, I9, q9⟩ => ?_
      -- the turn's end
      have fin : ∀ {s' : Shared} {H' : Hp}, Inv (X.blk s3 H3 scope ce fp) ([] ++ pinsAt fp s7.heap) σ8 H' s' → Nx H' → ∃ m, m < n ∧ ∃ i H', Inv (X.blk s3 H3 scope ce fp) [] (L2.wipe σ (own.map (·.2))) H' s' ∧ tn i s'.heap ∧ (∀ b ∈ fp, H' b = none) ∧ W i m H' := fun {s' H'} I' nx => by
        obtain ⟨m', hm, w'⟩ := hNx H' nx
        have pin' : ∀ b ∈ fp, ∀ o, s7.heap.get? b = some o → s'.heap.get? b = some o ∧ H' b = none := fun b hb o e =>
          let z := I'.pin (b, o) (List.mem_append_right _ (List.mem_append_right _ (mem_pinsAt hb e)))
          ⟨z.1, z.2.1⟩
        have hl : (L2.wipe σ (own.map (·.2))).length = σ8.length := by rw [← hw8, wipe_length]
        refine ⟨m', hm, i + 1, H', (I'.unpinned (pins := [])).weak hl (fun j v e => ?_), T.keep _ _ _ st7 fun b hb o e => (pin' b hb o e).1, fun b hb => ?_, w'⟩
        · rw [← hw8] at e
          exact (L2.wipe_some e).1
        · obtain ⟨o, e, _⟩ := T.obj _ _ st7 b hb
          exact (pin' b hb o e).2
      cases b with
      | false =>
        simp only [Bool.false_eq_true, if_false] at q9 ⊢
        exact fin I9 q9
      | true =>
        simp only [if_true] at q9 ⊢
        refine thnF (pk.run _ s9 σ8 H9 _ I9 q9) fun z s10 ⟨yk, H10, I10, r10, q10⟩ => ?_
        refine thnF (pe.run _ s10 σ8 H10 _ I10 q10) fun z2 s11 ⟨yv, H11, I11, r11, nx⟩ => ?_
        exact dictSetN (X := X.blk s3 H3 scope ce fp) hu I11 nx r10 r11 fun s12 H12 I12 nx => fin I12 nx
  exact codeAny_compStart_dict loop (T.self X.A 0 _ _ _ st4 loop)
end
theorem dTurn2_out (kx vx t0 i0 t1 i1 : Expr) (ifs0 ifs1 : List Expr) (scope : Scope) (pos : Pos) (it : Value) (D : Addr) (env : Env) :
    compTurn (.DictComp kx vx [⟨t0, i0, ifs0, 0⟩, ⟨t1, i1, ifs1, 0⟩] scope pos) 0 it (.ref D) env = (do
      standAt i0.pos
      match ← pyNext it with
      | none => pure (.done .next)
      | some v =>
        letOwnedTupleGo t0 it v
        assign t0 env v
        let mut ok := true
        for c in ifs0 do
          if ok then ok ← isTrue c env (eval c env)
        if ok then
          let x ← eval i1 env
          standAt i1.pos
          let x ← foldedSetIterable i1 env x
          let _ ← runOwn (.compStart (.DictComp kx vx [⟨t0, i0, ifs0, 0⟩, ⟨t1, i1, ifs1, 0⟩] scope pos) 1 (← holding [x] (pyIter x)) (.ref D) env) env
        again (.compLoop (.DictComp kx vx [⟨t0, i0, ifs0, 0⟩, ⟨t1, i1, ifs1, 0⟩] scope pos) 0 it (.ref D) env)) := by rfl
theorem dTurn2_in (kx vx t0 i0 t1 i1 : Expr) (ifs0 ifs1 : List Expr) (scope : Scope) (pos : Pos) (it : Value) (D : Addr) (env : Env) :
    compTurn (.DictComp kx vx [⟨t0, i0, ifs0, 0⟩, ⟨t1, i1, ifs1, 0⟩] scope pos) 1 it (.ref D) env = (do
      standAt i1.pos
      match ← pyNext it with
      | none => pure (.done .next)
      | some v =>
        letOwnedTupleGo t1 it v
        assign t1 env v
        let mut ok := true
        for c in ifs1 do
          if ok then ok ← isTrue c env (eval c env)
        if ok then
          (do
            let kv ← eval kx env
            let vv ← holding [kv] (eval vx env)
            standAt { kx.pos with endLine := vx.pos.endLine, endCol := vx.pos.endCol }
            holding [kv, vv] (dictSet D kv vv))
        again (.compLoop (.DictComp kx vx [⟨t0, i0, ifs0, 0⟩, ⟨t1, i1, ifs1, 0⟩] scope pos) 1 it (.ref D) env)) := by rfl

section
variable {prog : Program} {w : World} {A : Around} {R : Result → Shared → Prop} {s : Shared} {kx vx t0 i0 t1 i1 : Expr} {ifs0 ifs1 : List Expr} {scope : Scope} {pos : Pos} {it : Value} {D : Addr} {env : Env}
/-- the loop of the first clause -/
theorem dLoop2_out (hs : ∀ x, foldedSetIterable i1 env x = pure x) (I : Nat → Shared → Prop)
    (turn : ∀ n s, I n s → wpAny (model prog w) A (pyNext it) (fun r s₁ => match r with
      | none => R (.ok .next) s₁
      | some v => wpAny (model prog w) A (letOwnedTupleGo t0 it v) (fun _ s₁' => wpAny (model prog w) A (assign t0 env v) (fun _ s₂ =>
          wpAny (model prog w) A (forIn ifs0 true fun c r => if r = true then do let ok ← isTrue c env (eval c env); pure (ForInStep.yield ok) else pure (ForInStep.yield r)) (fun ok s₃ =>
            if ok = true then wpAny (model prog w) A (eval i1 env) (fun x s₄ => wpAny (model prog w) A (pyIter x) (fun it1 s₅ =>
              codeAny (model prog w) A (.compStart (.DictComp kx vx [⟨t0, i0, ifs0, 0⟩, ⟨t1, i1, ifs1, 0⟩] scope pos) 1 it1 (.ref D) env) (fun r s' => match r with
                | .ok _ => ∃ m, m < n ∧ I m s'
                | .error _ => False) s₅) (notedBy (model prog w) A env fun e s' => R (.error e) s') s₄) (notedBy (model prog w) A env fun e s' => R (.error e) s') s₃
            else ∃ m, m < n ∧ I m s₃) (notedBy (model prog w) A env fun e s' => R (.error e) s') s₂) (notedBy (model prog w) A env fun e s' => R (.error e) s') s₁') (notedBy (model prog w) A env fun e s' => R (.error e) s') s₁) (notedBy (model prog w) A env fun e s' => R (.error e) s') s)
    (n : Nat) (h : I n s) :
    codeAny (model prog w) A (.compLoop (.DictComp kx vx [⟨t0, i0, ifs0, 0⟩, ⟨t1, i1, ifs1, 0⟩] scope pos) 0 it (.ref D) env) R s := by
  refine codeAny_loop rfl I (fun n s hI => ?_) n h
  show wpAny _ A ((compTurn (.DictComp kx vx [⟨t0, i0, ifs0, 0⟩, ⟨t1, i1, ifs1, 0⟩] scope pos) 0 it (.ref D) env).onRaise (fun x => do noteFrame x env; theTreesLotGoes x)) _ _ s
  refine wpAny_noted ?_
  rw [dTurn2_out]
  refine wpAny_bind (wpAny_standAt (wpAny_bind (wpAny_mono (turn n s hI) (fun r s₁ h₁ => ?_) fun _ _ h' => h')))
  cases r with
  | none => exact wpAny_pure h₁
  | some v =>
    refine wpAny_bind (wpAny_mono h₁ (fun _ s₁' h₁' => ?_) fun _ _ h' => h')
    refine wpAny_bind (wpAny_mono h₁' (fun _ s₂ h₂ => wpAny_bind (wpAny_mono h₂ (fun ok s₃ h₃ => ?_) fun _ _ h' => h')) fun _ _ h' => h')
    cases ok with
    | false => exact wpAny_pure ⟨rfl, h₃⟩
    | true =>
      refine wpAny_bind (wpAny_mono h₃ (fun x s₄ h₄ => ?_) fun _ _ h' => h')
      refine wpAny_bind (wpAny_standAt (wpAny_bind (wpAny_of_eq (hs x) (wpAny_bind (wpAny_holding (wpAny_mono h₄ (fun it1 s₅ h₅ => ?_) fun _ _ h' => h'))))))
      refine wpAny_bind (wpAny_runOwn ?_)
      rw [Around.mark_none]
      refine codeAny_mono h₅ fun r s' hr => ?_
      cases r with
      | ok f =>
        first
          | exact wpAny_pure ⟨rfl, hr⟩
          | exact wpAny_bind (wpAny_pure (wpAny_pure ⟨rfl, hr⟩))
      | error e => exact hr.elim
/-- the loop of the second -/
theorem dLoop2_in (I : Nat → Shared → Prop)
    (turn : ∀ n s, I n s → wpAny (model prog w) A (pyNext it) (fun r s₁ => match r with
      | none => R (.ok .next) s₁
      | some v => wpAny (model prog w) A (letOwnedTupleGo t1 it v) (fun _ s₁' => wpAny (model prog w) A (assign t1 env v) (fun _ s₂ =>
          wpAny (model prog w) A (forIn ifs1 true fun c r => if r = true then do let ok ← isTrue c env (eval c env); pure (ForInStep.yield ok) else pure (ForInStep.yield r)) (fun ok s₃ =>
            if ok = true then wpAny (model prog w) A (eval kx env) (fun kv s₄ => wpAny (model prog w) A (eval vx env) (fun vv s₅ =>
              wpAny (model prog w) A (dictSet D kv vv) (fun _ s₆ => ∃ m, m < n ∧ I m s₆) (notedBy (model prog w) A env fun e s' => R (.error e) s') s₅) (notedBy (model prog w) A env fun e s' => R (.error e) s') s₄) (notedBy (model prog w) A env fun e s' => R (.error e) s') s₃
            else ∃ m, m < n ∧ I m s₃) (notedBy (model prog w) A env fun e s' => R (.error e) s') s₂) (notedBy (model prog w) A env fun e s' => R (.error e) s') s₁') (notedBy (model prog w) A env fun e s' => R (.error e) s') s₁) (notedBy (model prog w) A env fun e s' => R (.error e) s') s)
    (n : Nat) (h : I n s) :
    codeAny (model prog w) A (.compLoop (.DictComp kx vx [⟨t0, i0, ifs0, 0⟩, ⟨t1, i1, ifs1, 0⟩] scope pos) 1 it (.ref D) env) R s := by
  refine codeAny_loop rfl I (fun n s hI => ?_) n h
  show wpAny _ A ((compTurn (.DictComp kx vx [⟨t0, i0, ifs0, 0⟩, ⟨t1, i1, ifs1, 0⟩] scope pos) 1 it (.ref D) env).onRaise (fun x => do noteFrame x env; theTreesLotGoes x)) _ _ s
  refine wpAny_noted ?_
  rw [dTurn2_in]
  refine wpAny_bind (wpAny_standAt (wpAny_bind (wpAny_mono (turn n s hI) (fun r s₁ h₁ => ?_) fun _ _ h' => h')))
  cases r with
  | none => exact wpAny_pure h₁
  | some v =>
    refine wpAny_bind (wpAny_mono h₁ (fun _ s₁' h₁' => ?_) fun _ _ h' => h')
    refine wpAny_bind (wpAny_mono h₁' (fun _ s₂ h₂ => wpAny_bind (wpAny_mono h₂ (fun ok s₃ h₃ => ?_) fun _ _ h' => h')) fun _ _ h' => h')
    cases ok with
    | false => exact wpAny_pure ⟨rfl, h₃⟩
    | true =>
      exact wpAny_bind (wpAny_bind (wpAny_mono h₃ (fun kv s₄ h₄ => wpAny_bind (wpAny_holding (wpAny_mono h₄ (fun vv s₅ h₅ => wpAny_bind (wpAny_standAt (wpAny_holding (wpAny_mono h₅ (fun _ s₆ h₆ => wpAny_pure ⟨rfl, h₆⟩) fun _ _ h' => h')))) fun _ _ h' => h'))) fun _ _ h' => h'))
/-- the second clause's start -/
theorem dStart1_ok (h0 : codeAny (model prog w) A (.compLoop (.DictComp kx vx [⟨t0, i0, ifs0, 0⟩, ⟨t1, i1, ifs1, 0⟩] scope pos) 1 it (.ref D) env) R s)
    (h : wpAny (model prog w) A (pyIter it) (fun it' s' => codeAny (model prog w) A (.compLoop (.DictComp kx vx [⟨t0, i0, ifs0, 0⟩, ⟨t1, i1, ifs1, 0⟩] scope pos) 1 it' (.ref D) env) R s')
      (notedBy (model prog w) A env fun x s' => R (.error x) s') s) :
    codeAny (model prog w) A (.compStart (.DictComp kx vx [⟨t0, i0, ifs0, 0⟩, ⟨t1, i1, ifs1, 0⟩] scope pos) 1 it (.ref D) env) R s := by
  refine codeAny_of_tree ?_
  show wpAny _ _ ((compStart (.DictComp kx vx [⟨t0, i0, ifs0, 0⟩, ⟨t1, i1, ifs1, 0⟩] scope pos) 1 it (.ref D) env).onRaise (fun x => do noteFrame x env; standAt theWindowsPlace)) _ _ s
  refine wpAny_notedAt ?_
  unfold compStart
  show wpAny _ _ (ask >>= _) _ _ s
  refine wpAny_bind (wpAny_askSetting (wpAny_ite ?_))
  split
  · first
      | exact wpAny_bind (wpAny_pure (wpAny_pure (And.intro rfl h0)))
      | exact wpAny_pure (And.intro rfl h0)
  · first
      | exact wpAny_bind (wpAny_rule (wpAny_bind (wpAny_standAt (wpAny_bind (wpAny_mono h (fun it' s' h' => wpAny_pure (And.intro rfl h')) fun _ _ x => x)))))
      | (refine wpAny_bind (wpAny_rule ?_); show wpAny _ _ (standAt i1.pos >>= _) _ _ s; exact wpAny_bind (wpAny_standAt (wpAny_bind (wpAny_mono h (fun it' s' h' => wpAny_pure (And.intro rfl h')) fun _ _ x => x))))
end

section
variable {X : Cx}
theorem dn2_core {pins : List (Addr × Obj)} {s : Shared} {σ : L2.St} {H : Hp} {Q : VK} {kx vx tg iter tg1 iter1 : Expr} {ifs ifs1 : List Expr} {scope : Scope} {own : List (Str × Nat)} {vs1 : List Nat} {pos pos' : Pos} {wi wi1 : TI} {g g1 : TG} {tt tt1 : TT} {tk te : TE} {use : Option (Value → Sem Unit)} {Qf : Value → Shared → Prop}
    (hu : X.A.units + 64 < cLine) (hc : X.calm = true) (hN : X.N.Nodup) (I : Inv X pins σ H s) (hi : PI X tg iter wi) (ok : BlkOk X.N X.env.scope scope own) (hv : ∀ i ∈ vs1, i ∈ own.map (·.2))
    (hg : ∀ (s : Shared) (H : Hp) (C : Addr) (cl : List (Str × Addr)) (fp : List Addr), PG (X.blk s H scope (compEnvC scope cl C X.env) fp) tg g) (ht : ∀ (s : Shared) (H : Hp) (C : Addr) (cl : List (Str × Addr)) (fp : List Addr), PTs (X.blk s H scope (compEnvC scope cl C X.env) fp) ifs tt)
    (hk : ∀ (s : Shared) (H : Hp) (C : Addr) (cl : List (Str × Addr)) (fp : List Addr), PE (X.blk s H scope (compEnvC scope cl C X.env) fp) kx tk) (he : ∀ (s : Shared) (H : Hp) (C : Addr) (cl : List (Str × Addr)) (fp : List Addr), PE (X.blk s H scope (compEnvC scope cl C X.env) fp) vx te) (hs : ∀ x, foldedSetIterable iter X.env x = pure x)
    (hi1 : ∀ (s : Shared) (H : Hp) (C : Addr) (cl : List (Str × Addr)) (fp : List Addr), PI (X.blk s H scope (compEnvC scope cl C X.env) fp) tg1 iter1 wi1)
    (hg1 : ∀ (s : Shared) (H : Hp) (C : Addr) (cl : List (Str × Addr)) (fp : List Addr), PG (X.blk s H scope (compEnvC scope cl C X.env) fp) tg1 g1)
    (ht1 : ∀ (s : Shared) (H : Hp) (C : Addr) (cl : List (Str × Addr)) (fp : List Addr), PTs (X.blk s H scope (compEnvC scope cl C X.env) fp) ifs1 tt1)
    (hs1 : ∀ env x, foldedSetIterable iter1 env x = pure x)
    (h : tDn2 (pw X) wi g tt wi1 g1 tt1 tk te (own.map (·.2)) vs1 σ H Q)
    (hRR : ∀ D C s' m H', Inv X pins σ H' s' → Q (.ref D) H' → s'.heap.Ns C m → FpOk X pins H' C → compPost (model X.prog X.w) X.A X.xe use Qf (.ref D) C (.ok .next) s') :
    wpAny (model X.prog X.w) X.A (comprehension (.DictComp kx vx [⟨tg, iter, ifs, 0⟩, ⟨tg1, iter1, ifs1, 0⟩] scope pos) scope X.env pos' newDict false (eval iter X.env) use) Qf X.xe s := by
  have hfree : ∀ y ∈ scope.names, y.2 = .free → ∃ c, X.env.cells.lookup y.1 = some c := fun y hy e => by
    rcases ok.free y hy e with k | k
    · exact I.ok.has _ (.inl k)
    · exact I.ok.has _ (.inr k)
  refine wpAny_comprehension_free (use := use) rfl hs (closure_ok hfree) ok.kind (fun y hy e => by rw [ok.uniq y hy, e])
    (thn (hi.run pins s σ H _ I h) fun xv s1 hx => thn hx fun itv s2 h2 => ?_)
  obtain ⟨it, fp, tn, J, H2, e, I2, T, st2, f2, q⟩ := h2
  subst e
  refine wpAny_newObj_type (newEnv_comp ?_)
  generalize hD : s2.heap.objs.size = D
  have hDn : H2 D = none := I2.hok.fresh (Nat.le_of_eq hD)
  have hbD : (D == sysModules) = false := by rw [← hD]; exact big_of I2
  obtain ⟨W, ⟨m0, w0⟩, turn⟩ := q D hDn hbD
  -- the new list
  generalize hs3 : ({ s2 with heap := s2.heap.push { cls := .type "dict", data := .dict #[] } } : Shared) = s3
  have I3 : Inv X pins σ (upd H2 D (dO D obj0)) s3 := by
    rw [← hs3]
    refine I2.laid (t' := s2.toks) (fun b o e => Heap.get?_push_of_some _ e) (Nat.le_of_eq hD) ?_
    rw [← hD]
    exact dO_ok (Heap.get?_push_size _ rfl)
  have h3 : s3.heap = s2.heap.push { cls := .type "dict", data := .dict #[] } := by rw [← hs3]
  have sz : ∀ b ∈ fp, b < s2.heap.objs.size := fun b hb => by
    obtain ⟨o, e, _⟩ := T.obj _ _ st2 b hb
    exact Heap.lt_size e
  have f3 : ∀ b ∈ fp, FpOk X pins (upd H2 D (dO D obj0)) b ∧ b < s3.heap.objs.size := fun b hb => by
    have hlt := sz b hb
    refine ⟨⟨?_, (f2 b hb).2⟩, by rw [h3, Heap.size_push]; exact Nat.lt_succ_of_lt hlt⟩
    rw [upd_ne (by rw [← hD]; exact Nat.ne_of_lt hlt)]
    exact (f2 b hb).1
  have st3 : tn 0 s3.heap := T.keep _ _ _ st2 fun b _ o e => by rw [h3]; exact Heap.get?_push_of_some _ e
  have I4 := block_start I3 ok hN f3
  have pg := hg s3 (upd H2 D (dO D obj0)) s3.heap.objs.size (cellsFrom (s3.heap.objs.size + 1) scope.names (cloFrom X.env.cells scope.names [])) fp
  have pt := ht s3 (upd H2 D (dO D obj0)) s3.heap.objs.size (cellsFrom (s3.heap.objs.size + 1) scope.names (cloFrom X.env.cells scope.names [])) fp
  have pk := hk s3 (upd H2 D (dO D obj0)) s3.heap.objs.size (cellsFrom (s3.heap.objs.size + 1) scope.names (cloFrom X.env.cells scope.names [])) fp
  have pe := he s3 (upd H2 D (dO D obj0)) s3.heap.objs.size (cellsFrom (s3.heap.objs.size + 1) scope.names (cloFrom X.env.cells scope.names [])) fp
  have pi1 := hi1 s3 (upd H2 D (dO D obj0)) s3.heap.objs.size (cellsFrom (s3.heap.objs.size + 1) scope.names (cloFrom X.env.cells scope.names [])) fp
  have pg1 := hg1 s3 (upd H2 D (dO D obj0)) s3.heap.objs.size (cellsFrom (s3.heap.objs.size + 1) scope.names (cloFrom X.env.cells scope.names [])) fp
  have pt1 := ht1 s3 (upd H2 D (dO D obj0)) s3.heap.objs.size (cellsFrom (s3.heap.objs.size + 1) scope.names (cloFrom X.env.cells scope.names [])) fp
  show codeAny _ _ (.compStart (.DictComp kx vx [⟨tg, iter, ifs, 0⟩, ⟨tg1, iter1, ifs1, 0⟩] scope pos) 0 (.ref it) (.ref D) (compEnvC scope (cellsFrom (s3.heap.objs.size + 1) scope.names (cloFrom X.env.cells scope.names [])) s3.heap.objs.size X.env)) (compPost (model X.prog X.w) X.A X.xe use Qf (.ref D) s3.heap.objs.size) { s3 with heap := pushCells (s3.heap.push { cls := .type "dict", data := .dict #[] }) scope.names }
  have nfp : ∀ b ∈ fp, (upd H2 D (dO D obj0)) b = none := fun b hb => (f3 b hb).1.1
  generalize hce : compEnvC scope (cellsFrom (s3.heap.objs.size + 1) scope.names (cloFrom X.env.cells scope.names [])) s3.heap.objs.size X.env = ce at I4 pg pt pk pe pi1 pg1 pt1 ⊢
  have cL : ce.locals = s3.heap.objs.size := by subst hce; rfl
  generalize hH3 : upd H2 D (dO D obj0) = H3 at I3 I4 pg pt pk pe pi1 pg1 pt1 w0 nfp f3
  generalize hs4 : ({ s3 with heap := pushCells (s3.heap.push { cls := .type "dict", data := .dict #[] }) scope.names } : Shared) = s4 at I4 ⊢
  have st4 : tn 0 s4.heap := T.keep _ _ _ st3 fun b _ o e => by rw [← hs4]; exact pushCells_keeps _ _ _ _ (Heap.get?_push_of_some _ e)
  have stat : ∀ {σ' : L2.St} {H' : Hp} {s' : Shared}, Inv (X.blk s3 H3 scope ce fp) [] σ' H' s' → (∀ b ∈ fp, H' b = none) → ∀ b ∈ fp, FpOk (X.blk s3 H3 scope ce fp) [] H' b := fun {σ' H' s'} I' hn b hb =>
    ⟨hn b hb, (I'.ok.exf b hb).1, I'.ok.exfs b hb, .inl hb, fun x c e => (I'.ok.exf b hb).2 x c e, fun p hp => absurd (show p ∈ ([] : List (Addr × Obj)) ++ [] from hp) (by simp)⟩
  have loop : codeAny (model X.prog X.w) X.A (.compLoop (.DictComp kx vx [⟨tg, iter, ifs, 0⟩, ⟨tg1, iter1, ifs1, 0⟩] scope pos) 0 (.ref it) (.ref D) ce) (compPost (model X.prog X.w) X.A X.xe use Qf (.ref D) s3.heap.objs.size) s4 := by
    refine dLoop2_out (hs1 ce) (fun n s' => ∃ i H', Inv (X.blk s3 H3 scope ce fp) [] (L2.wipe σ (own.map (·.2))) H' s' ∧ tn i s'.heap ∧ (∀ b ∈ fp, H' b = none) ∧ W i n H') ?_ m0 ⟨0, H3, I4, st4, nfp, w0⟩
    rintro n s5 ⟨i, H5, I5, st5, n5, w5⟩
    rcases turn i n H5 w5 with ⟨stop, qq⟩ | ⟨go, Nx, hNx, step⟩
    · have td := T.done (X.blk s3 H3 scope ce fp) rfl rfl rfl hc i [] s5 _ H5 (fun _ _ => False) I5 (stat I5 n5) st5 stop
      refine thnF td fun r s6 ⟨hr, I6⟩ => ?_
      subst hr
      -- back in the def's context
      have I7 : Inv X pins σ H5 s6 := I3.call' (ch := fp) I6.os I6.base I6.hok I6.bare fun b hb => ⟨(f3 b hb).1.2.2.2.1, (f3 b hb).1.2.1, (f3 b hb).1.2.2.2.2.1, (f3 b hb).1.2.2.2.2.2⟩
      have nC : H5 s3.heap.objs.size = none := by
        have z : H5 ce.locals = none := I6.free
        rw [cL] at z
        exact z
      obtain ⟨m, hn, _⟩ := I6.loc
      have hn : s6.heap.Ns ce.locals m := hn
      rw [cL] at hn
      exact hRR D s3.heap.objs.size s6 m H5 I7 qq hn (I3.fpOk (Nat.le_refl _) nC)
    · have ti := T.item (X.blk s3 H3 scope ce fp) rfl rfl rfl hc i [] s5 _ H5 (fun _ _ => False) I5 (stat I5 n5) st5 go
      refine thnF ti fun r s6 ⟨u, hr, h6⟩ => ?_
      subst hr
      refine thnF h6 fun _ s7 ⟨x, H7, I7, r7, y7, st7, n7⟩ => ?_
      have I7' := I7.pinned (stat I7 n7) (T.obj _ _ st7)
      refine thnF (pg.run _ s7 _ H7 x u _ I7' r7 (step x H7 y7)) fun _ s8 ⟨σ8, H8, I8, hw8, q8⟩ => ?_
      refine thnF (pt.run _ s8 σ8 H8 _ I8 q8) fun b s9 ⟨H9, I9, q9⟩ => ?_
      -- the turn's end, from any slots that know what the block knew at its start
      have fin : ∀ {σ9 : L2.St} {s' : Shared} {H' : Hp}, Inv (X.blk s3 H3 scope ce fp) ([] ++ pinsAt fp s7.heap) σ9 H' s' → (L2.wipe σ (own.map (·.2))).length = σ9.length → (∀ (j : Nat) v, (L2.wipe σ (own.map (·.2)))[j]? = some (some v) → σ9[j]? = some (some v)) → Nx H' →
          ∃ m, m < n ∧ ∃ i H', Inv (X.blk s3 H3 scope ce fp) [] (L2.wipe σ (own.map (·.2))) H' s' ∧ tn i s'.heap ∧ (∀ b ∈ fp, H' b = none) ∧ W i m H' := fun {σ9 s' H'} I' hl hk nx => by
        obtain ⟨m', hm, w'⟩ := hNx H' nx
        have pin' : ∀ b ∈ fp, ∀ o, s7.heap.get? b = some o → s'.heap.get? b = some o ∧ H' b = none := fun b hb o e =>
          let z := I'.pin (b, o) (List.mem_append_right _ (List.mem_append_right _ (mem_pinsAt hb e)))
          ⟨z.1, z.2.1⟩
        refine ⟨m', hm, i + 1, H', (I'.unpinned (pins := [])).weak hl hk, T.keep _ _ _ st7 fun b hb o e => (pin' b hb o e).1, fun b hb => ?_, w'⟩
        obtain ⟨o, e, _⟩ := T.obj _ _ st7 b hb
        exact (pin' b hb o e).2
      have hl8 : (L2.wipe σ (own.map (·.2))).length = σ8.length := by rw [← hw8, wipe_length]
      have hk8 : ∀ (j : Nat) v, (L2.wipe σ (own.map (·.2)))[j]? = some (some v) → σ8[j]? = some (some v) := fun j v e => by
        rw [← hw8] at e
        exact (L2.wipe_some e).1
      have hk9 : ∀ (j : Nat) v, (L2.wipe σ (own.map (·.2)))[j]? = some (some v) → (L2.wipe σ8 vs1)[j]? = some (some v) := fun j v e => by
        rw [← hw8] at e
        obtain ⟨e1, e2⟩ := wipe_some e
        rw [wipe_out fun z => e2 (hv j z)]
        exact e1
      cases b with
      | false =>
        simp only [Bool.false_eq_true, if_false] at q9 ⊢
        exact fin I9 hl8 hk8 q9
      | true =>
        simp only [if_true] at q9 ⊢
        refine thnF (pi1.run _ s9 σ8 H9 _ I9 q9) fun xv s10 hx => thnF hx fun itv s11 h11 => ?_
        obtain ⟨it1, fp1, tn1, J1, H11, e1, I11, T1, st11, f11, W1, ⟨m1, w1⟩, turn1⟩ := h11
        subst e1
        -- the inner loop
        have stat1 : ∀ {H' : Hp}, (∀ b ∈ fp1, H' b = none) → ∀ b ∈ fp1, FpOk (X.blk s3 H3 scope ce fp) ([] ++ pinsAt fp s7.heap) H' b := fun hn b hb => ⟨hn b hb, (f11 b hb).2⟩
        have loop1 : codeAny (model X.prog X.w) X.A (.compLoop (.DictComp kx vx [⟨tg, iter, ifs, 0⟩, ⟨tg1, iter1, ifs1, 0⟩] scope pos) 1 (.ref it1) (.ref D) ce)
            (fun r s' => match r with
              | .ok _ => ∃ m, m < n ∧ ∃ i H', Inv (X.blk s3 H3 scope ce fp) [] (L2.wipe σ (own.map (·.2))) H' s' ∧ tn i s'.heap ∧ (∀ b ∈ fp, H' b = none) ∧ W i m H'
              | .error _ => False) s11 := by
          refine dLoop2_in (fun k s' => ∃ j H', Inv (X.blk s3 H3 scope ce fp) ([] ++ pinsAt fp s7.heap) (L2.wipe σ8 vs1) H' s' ∧ tn1 j s'.heap ∧ (∀ b ∈ fp1, H' b = none) ∧ W1 j k H') ?_ m1 ⟨0, H11, I11.weak (L2.wipe_length _ _) (fun j v e => (L2.wipe_some e).1), st11, fun b hb => (f11 b hb).1, w1⟩
          rintro k s12 ⟨j, H12, I12, st12, n12, w12⟩
          rcases turn1 j k H12 w12 with ⟨stop1, nx1⟩ | ⟨go1, Nx1, hNx1, step1⟩
          · refine thnF (T1.done (X.blk s3 H3 scope ce fp) rfl rfl rfl hc j _ s12 (L2.wipe σ8 vs1) H12 (fun _ _ => False) I12 (stat1 n12) st12 stop1) fun r s13 ⟨hr, I13⟩ => ?_
            subst hr
            exact fin I13 (hl8.trans (L2.wipe_length σ8 vs1).symm) hk9 nx1
          · refine thnF (T1.item (X.blk s3 H3 scope ce fp) rfl rfl rfl hc j _ s12 (L2.wipe σ8 vs1) H12 (fun _ _ => False) I12 (stat1 n12) st12 go1) fun r s13 ⟨u1, hr, h13⟩ => ?_
            subst hr
            refine thnF h13 fun _ s14 ⟨x1, H14, I14, r14, y14, st14, n14⟩ => ?_
            have I14' := I14.pinned (stat1 n14) (T1.obj _ _ st14)
            refine thnF (pg1.run _ s14 (L2.wipe σ8 vs1) H14 x1 u1 _ I14' r14 (step1 x1 H14 y14)) fun _ s15 ⟨σ15, H15, I15, hw15, q15⟩ => ?_
            refine thnF (pt1.run _ s15 σ15 H15 _ I15 q15) fun b1 s16 ⟨H16, I16, q16⟩ => ?_
            have fin1 : ∀ {s' : Shared} {H' : Hp}, Inv (X.blk s3 H3 scope ce fp) (([] ++ pinsAt fp s7.heap) ++ pinsAt fp1 s14.heap) σ15 H' s' → Nx1 H' → ∃ m, m < k ∧ ∃ j H', Inv (X.blk s3 H3 scope ce fp) ([] ++ pinsAt fp s7.heap) (L2.wipe σ8 vs1) H' s' ∧ tn1 j s'.heap ∧ (∀ b ∈ fp1, H' b = none) ∧ W1 j m H' := fun {s' H'} I' nx => by
              obtain ⟨m', hm, w'⟩ := hNx1 H' nx
              have pin' : ∀ b ∈ fp1, ∀ o, s14.heap.get? b = some o → s'.heap.get? b = some o ∧ H' b = none := fun b hb o e =>
                let z := I'.pin (b, o) (List.mem_append_right _ (List.mem_append_right _ (mem_pinsAt hb e)))
                ⟨z.1, z.2.1⟩
              refine ⟨m', hm, j + 1, H', I'.unpinned.weak (by rw [← hw15, wipe_length]) (fun j v e => by rw [← hw15] at e; exact (L2.wipe_some e).1), T1.keep _ _ _ st14 fun b hb o e => (pin' b hb o e).1, fun b hb => ?_, w'⟩
              obtain ⟨o, e, _⟩ := T1.obj _ _ st14 b hb
              exact (pin' b hb o e).2
            cases b1 with
            | false =>
              simp only [Bool.false_eq_true, if_false] at q16 ⊢
              exact fin1 I16 q16
            | true =>
              simp only [if_true] at q16 ⊢
              refine thnF (pk.run _ s16 σ15 H16 _ I16 q16) fun z s17 ⟨yk, H17, I17, r17, q17⟩ => ?_
              refine thnF (pe.run _ s17 σ15 H17 _ I17 q17) fun z2 s18 ⟨yv, H18, I18, r18, nx⟩ => ?_
              exact dictSetN (X := X.blk s3 H3 scope ce fp) hu I18 nx r17 r18 fun s19 H19 I19 nx => fin1 I19 nx
        exact dStart1_ok loop1 (T1.self X.A 0 _ _ _ st11 loop1)
  exact codeAny_compStart_dict loop (T.self X.A 0 _ _ _ st4 loop)

theorem pe_dn {kx vx tg iter : Expr} {ifs : List Expr} {scope : Scope} {own : List (Str × Nat)} {pos : Pos} {wi : TI} {g : TG} {tt : TT} {tk tv : TE} (hu : X.A.units + 64 < cLine) (hc : X.calm = true) (hN : X.N.Nodup) (hi : PI X tg iter wi) (ok : BlkOk X.N X.env.scope scope own)
    (hg : ∀ (s : Shared) (H : Hp) (C : Addr) (cl : List (Str × Addr)) (fp : List Addr), PG (X.blk s H scope (compEnvC scope cl C X.env) fp) tg g) (ht : ∀ (s : Shared) (H : Hp) (C : Addr) (cl : List (Str × Addr)) (fp : List Addr), PTs (X.blk s H scope (compEnvC scope cl C X.env) fp) ifs tt)
    (hk : ∀ (s : Shared) (H : Hp) (C : Addr) (cl : List (Str × Addr)) (fp : List Addr), PE (X.blk s H scope (compEnvC scope cl C X.env) fp) kx tk)
    (he : ∀ (s : Shared) (H : Hp) (C : Addr) (cl : List (Str × Addr)) (fp : List Addr), PE (X.blk s H scope (compEnvC scope cl C X.env) fp) vx tv) (hs : ∀ x, foldedSetIterable iter X.env x = pure x := by intro _; rfl) :
    PE X (.DictComp kx vx [⟨tg, iter, ifs, 0⟩] scope pos) (tDn (pw X) wi g tt tk tv (own.map (·.2))) := by
  refine ⟨fun pins s σ H Q I h => ?_⟩
  rw [arm_eval_DictComp]
  refine dn_core hu hc hN I hi ok hg ht hk he hs h fun D C s' m H' I' q hn f => ⟨m, hn, fun h'' sb => ?_⟩
  obtain ⟨f0, f1, f2, f3, f4, f5⟩ := f
  exact ⟨.ref D, H', I'.turned (t' := s'.toks) (fun b o hb e => (sb.2 b hb).trans e) f0 f1 f3 f4 f5, rfl, q⟩
theorem ps_setDn {i : Nat} {y : Str} {py : Pos} {kx vx tg iter : Expr} {ifs : List Expr} {scope : Scope} {own : List (Str × Nat)} {pos spos : Pos} {wi : TI} {g : TG} {tt : TT} {tk tv : TE} (hu : X.A.units + 64 < cLine) (hc : X.calm = true) (hN : X.N.Nodup) (hy : X.N[i]? = some y) (hyl : X.env.scope.names.lookup y = some .local)
    (hsw : swapsWith (.DictComp kx vx [⟨tg, iter, ifs, 0⟩] scope pos) (some (.Name y py)) spos.line X.env = pure true) (hi : PI X tg iter wi) (ok : BlkOk X.N X.env.scope scope own)
    (hg : ∀ (s : Shared) (H : Hp) (C : Addr) (cl : List (Str × Addr)) (fp : List Addr), PG (X.blk s H scope (compEnvC scope cl C X.env) fp) tg g) (ht : ∀ (s : Shared) (H : Hp) (C : Addr) (cl : List (Str × Addr)) (fp : List Addr), PTs (X.blk s H scope (compEnvC scope cl C X.env) fp) ifs tt)
    (hk : ∀ (s : Shared) (H : Hp) (C : Addr) (cl : List (Str × Addr)) (fp : List Addr), PE (X.blk s H scope (compEnvC scope cl C X.env) fp) kx tk)
    (he : ∀ (s : Shared) (H : Hp) (C : Addr) (cl : List (Str × Addr)) (fp : List Addr), PE (X.blk s H scope (compEnvC scope cl C X.env) fp) vx tv) (hs : ∀ x, foldedSetIterable iter X.env x = pure x := by intro _; rfl) :
    PS X (.Assign [.Name y py] (.DictComp kx vx [⟨tg, iter, ifs, 0⟩] scope pos) spos) (tAsg (tDn (pw X) wi g tt tk tv (own.map (·.2))) (gName i)) := by
  refine ⟨fun pins s σ H D I h => ?_⟩
  rw [exec_Assign_Name_used _ _ _ _ hsw]
  refine wpAny_bind (wpAny_standAt (wpAny_bind ?_))
  show wpAny _ X.A (do let _ ← comprehension (.DictComp kx vx [⟨tg, iter, ifs, 0⟩] scope pos) scope X.env (firstIterPos [⟨tg, iter, ifs, 0⟩] pos) newDict false (eval iter X.env) (some (assign (.Name y py) X.env))) _ _ s
  have h : tDn (pw X) wi g tt tk tv (own.map (·.2)) σ H (fun x H1 => gName i x σ H1 D.nx) := h
  refine wpAny_bind (thn (dn_core (Qf := fun _ s' => SP X pins D .next s') hu hc hN I hi ok hg ht hk he hs h fun L C s' m H' I' q hn f => ?_) fun _ s' hq => wpAny_pure (wpAny_pure hq))
  show wpAny _ _ (assign (.Name y py) X.env (.ref L)) _ _ _
  refine wpAny_assign_Name (store_ok2 (v := V.ref L) I' hN hy (.inl hyl) rfl (fun s2 I2 ⟨a, sb, ha⟩ => ?_) (.inr hyl))
  obtain ⟨f0, f1, f2, f3, f4, f5⟩ := f
  have haC : C ≠ a := by
    rcases ha with z | z
    · rw [z]; exact f1
    · exact fun e => f4 y a z e.symm
  refine ⟨m, hn.sameBut sb haC, fun h3 sb3 => ?_⟩
  exact ⟨_, H', I2.turned (t' := s2.toks) (fun b o hb e => (sb3.2 b hb).trans e) f0 f1 f3 f4 f5, q⟩
theorem ps_setDn2 {i : Nat} {y : Str} {py : Pos} {kx vx tg iter tg1 iter1 : Expr} {ifs ifs1 : List Expr} {scope : Scope} {own : List (Str × Nat)} {vs1 : List Nat} {pos spos : Pos} {wi wi1 : TI} {g g1 : TG} {tt tt1 : TT} {tk te : TE} (hu : X.A.units + 64 < cLine) (hc : X.calm = true) (hN : X.N.Nodup) (hy : X.N[i]? = some y) (hyl : X.env.scope.names.lookup y = some .local)
    (hsw : swapsWith (.DictComp kx vx [⟨tg, iter, ifs, 0⟩, ⟨tg1, iter1, ifs1, 0⟩] scope pos) (some (.Name y py)) spos.line X.env = pure true) (hi : PI X tg iter wi) (ok : BlkOk X.N X.env.scope scope own) (hv : ∀ i ∈ vs1, i ∈ own.map (·.2))
    (hg : ∀ (s : Shared) (H : Hp) (C : Addr) (cl : List (Str × Addr)) (fp : List Addr), PG (X.blk s H scope (compEnvC scope cl C X.env) fp) tg g) (ht : ∀ (s : Shared) (H : Hp) (C : Addr) (cl : List (Str × Addr)) (fp : List Addr), PTs (X.blk s H scope (compEnvC scope cl C X.env) fp) ifs tt)
    (hi1 : ∀ (s : Shared) (H : Hp) (C : Addr) (cl : List (Str × Addr)) (fp : List Addr), PI (X.blk s H scope (compEnvC scope cl C X.env) fp) tg1 iter1 wi1)
    (hg1 : ∀ (s : Shared) (H : Hp) (C : Addr) (cl : List (Str × Addr)) (fp : List Addr), PG (X.blk s H scope (compEnvC scope cl C X.env) fp) tg1 g1) (ht1 : ∀ (s : Shared) (H : Hp) (C : Addr) (cl : List (Str × Addr)) (fp : List Addr), PTs (X.blk s H scope (compEnvC scope cl C X.env) fp) ifs1 tt1)
    (hk : ∀ (s : Shared) (H : Hp) (C : Addr) (cl : List (Str × Addr)) (fp : List Addr), PE (X.blk s H scope (compEnvC scope cl C X.env) fp) kx tk)
    (he : ∀ (s : Shared) (H : Hp) (C : Addr) (cl : List (Str × Addr)) (fp : List Addr), PE (X.blk s H scope (compEnvC scope cl C X.env) fp) vx te) (hs : ∀ x, foldedSetIterable iter X.env x = pure x := by intro _; rfl) (hs1 : ∀ env x, foldedSetIterable iter1 env x = pure x := by intro _ _; rfl) :
    PS X (.Assign [.Name y py] (.DictComp kx vx [⟨tg, iter, ifs, 0⟩, ⟨tg1, iter1, ifs1, 0⟩] scope pos) spos) (tAsg (tDn2 (pw X) wi g tt wi1 g1 tt1 tk te (own.map (·.2)) vs1) (gName i)) := by
  refine ⟨fun pins s σ H D I h => ?_⟩
  rw [exec_Assign_Name_used _ _ _ _ hsw]
  refine wpAny_bind (wpAny_standAt (wpAny_bind ?_))
  show wpAny _ X.A (do let _ ← comprehension (.DictComp kx vx [⟨tg, iter, ifs, 0⟩, ⟨tg1, iter1, ifs1, 0⟩] scope pos) scope X.env (firstIterPos [⟨tg, iter, ifs, 0⟩, ⟨tg1, iter1, ifs1, 0⟩] pos) newDict false (eval iter X.env) (some (assign (.Name y py) X.env))) _ _ s
  have h : tDn2 (pw X) wi g tt wi1 g1 tt1 tk te (own.map (·.2)) vs1 σ H (fun x H1 => gName i x σ H1 D.nx) := h
  refine wpAny_bind (thn (dn2_core (Qf := fun _ s' => SP X pins D .next s') hu hc hN I hi ok hv hg ht hk he hs hi1 hg1 ht1 hs1 h fun L C s' m H' I' q hn f => ?_) fun _ s' hq => wpAny_pure (wpAny_pure hq))
  show wpAny _ _ (assign (.Name y py) X.env (.ref L)) _ _ _
  refine wpAny_assign_Name (store_ok2 (v := V.ref L) I' hN hy (.inl hyl) rfl (fun s2 I2 ⟨a, sb, ha⟩ => ?_) (.inr hyl))
  obtain ⟨f0, f1, f2, f3, f4, f5⟩ := f
  have haC : C ≠ a := by
    rcases ha with z | z
    · rw [z]; exact f1
    · exact fun e => f4 y a z e.symm
  refine ⟨m, hn.sameBut sb haC, fun h3 sb3 => ?_⟩
  exact ⟨_, H', I2.turned (t' := s2.toks) (fun b o hb e => (sb3.2 b hb).trans e) f0 f1 f3 f4 f5, q⟩
end
end PD

set_option Elab.async false
set_option linter.all false
set_option maxRecDepth 100000
set_option maxHeartbeats 2000000
/-! Pd13: dict comprehensions over data. -/
namespace PD
open PySem L2 PySem.Spec PyProof.Rows
def foldD {α : Type} (key : α → List NestedKey) (val : α → D) (acc : List (NestedKey × D)) (xs : List α) : List (NestedKey × D) := xs.foldl (fun acc x => putN acc (.tup (key x)) (val x)) acc
theorem length_foldD {α : Type} {key : α → List NestedKey} {val : α → D} : ∀ {xs : List α} {acc : List (NestedKey × D)}, (foldD key val acc xs).length ≤ acc.length + xs.length
  | [], acc => Nat.le_refl _
  | x :: xs, acc => by
    have h := length_foldD (key := key) (val := val) (xs := xs) (acc := putN acc (.tup (key x)) (val x))
    have g := length_put (kvs := acc) (k := .tup (key x)) (d := val x)
    show (foldD key val (putN acc (.tup (key x)) (val x)) xs).length ≤ _
    rw [List.length_cons]
    omega
theorem foldD_snoc {α : Type} {key : α → List NestedKey} {val : α → D} {xs : List α} {x : α} {acc : List (NestedKey × D)} : foldD key val acc (xs ++ [x]) = putN (foldD key val acc xs) (.tup (key x)) (val x) := by
  unfold foldD
  rw [List.foldl_append]; rfl
/-- the readings of the key and of the value -/
def tkC {α : Type} (M : MW) (r : List (Option D)) (xs : List α) (u : α → List (Nat × D)) (d : α → D) (vs : List Nat) : TE := fun σ H Q => ∃ x, x ∈ xs ∧ tD M (setsO (u x) (wipeO r vs)) (d x) σ H Q
section
variable {M : MW} {W : Wd} {D0 : Addr}
/-- what is being built stands at D0 -/
structure InD (M : MW) (W : Wd) (H1 : Hp) (D0 : Addr) (kvs : List (NestedKey × D)) (H : Hp) : Prop where
  ext : Ext W H1 H
  at_ : ∃ o es, H D0 = some (dO D0 o) ∧ Ents M o es ∧ RepKV M (W.add D0) H kvs es
variable {H1 H : Hp} {kvs : List (NestedKey × D)}
theorem InD.okD (a : InD M W H1 D0 kvs H) (ok1 : W.ok H1) : (W.add D0).ok H := (ok1.ext a.ext).adds fun b z => by
  obtain ⟨o, es, h, _⟩ := a.at_
  rw [show b = D0 from z]; exact ⟨_, h⟩
theorem InD.stay (a : InD M W H1 D0 kvs H) (ok1 : W.ok H1) (hD : H1 D0 = none) : Stay W (W.add D0) H1 H := ⟨⟨fun b o' n h => ⟨a.ext.keep b o' (fun t => n (ok1.sub b t)) h, fun z => z.elim n fun z => by
    have z : b = D0 := z
    rw [z, hD] at h; cases h⟩, fun _ t => t⟩, (a.okD ok1).tr⟩
theorem nT_of (ok1 : W.ok H1) (hD : H1 D0 = none) : ¬ W.T D0 := fun t => by
  obtain ⟨o, e⟩ := ok1.tr D0 (ok1.sub D0 t)
  rw [hD] at e; cases e
theorem InD.go {H' : Hp} (a : InD M W H1 D0 kvs H) (ok1 : W.ok H1) (hD : H1 D0 = none) (e : Ext W H H') : InD M W H1 D0 kvs H' := by
  obtain ⟨o, es, h1, h2, h3⟩ := a.at_
  exact ⟨a.ext.trans e, o, es, e.keep _ _ (nT_of ok1 hD) h1, h2, RepKV.ext h3 (a.okD ok1) (Ext.adds.mpr e)⟩
theorem InD.new (hD : H1 D0 = none) : InD M W H1 D0 [] (L2.upd H1 D0 (dO D0 obj0)) := ⟨.new hD, obj0, [], upd_same, ents0, rfl⟩
/-- one store -/
theorem InD.put {ks : List NestedKey} {d : D} {y z : V} {Nx : Hp → Prop} (a : InD M W H1 D0 kvs H) (hD : H1 D0 = none) (ry : Rep M (W.add D0) H (kd (.tup ks)) y) (rz : Rep M (W.add D0) H d z) (hd : (NestedKey.tup ks).depth ≤ 8) (hz : kvs.length < sizeLine)
    (nx : ∀ H', InD M W H1 D0 (putN kvs (.tup ks) d) H' → Nx H') : rPutX M D0 y z H Nx := by
  obtain ⟨o, es, h1, h2, h3⟩ := a.at_
  have kr : KRep (W.add D0) H (.tup ks) y := (krep_kd (M := M) _ _).mpr ry
  obtain ⟨b, vs, eb, nb, hb, kb⟩ := id kr
  subst eb
  refine ⟨W.add D0, o, es, kvs, .tup ks, b, h1, h2, h3, rfl, kr, hd, by rw [h3.length]; exact hz, fun o' u ru he => nx _ ⟨a.ext.mut hD, o', _, upd_same, he, ?_⟩⟩
  have cr : Car (W.add D0) (W.add D0) H (L2.upd H D0 (dO D0 o')) := Car.upd (W := W.add D0) (.inr rfl)
  exact RepKV.put (RepKV.car cr _ _ h3) (KRep.car cr _ _ kr) ru (Rep.car cr _ _ rz)
end
section
variable {X : Cx} {r : List (Option D)}
theorem dn_read {α : Type} {M : MW} {g : TG} {own : List (Str × Nat)} (xs : List α) (enc : α → D) (u : α → List (Nat × D)) (key : α → List NestedKey) (val : α → D)
    (gd : ∀ x ∈ xs, GD M g (enc x) (u x)) (hu : ∀ x ∈ xs, ∀ p ∈ u x, p.1 ∈ own.map (·.2)) (hz : xs.length < sizeLine) (hdp : ∀ x ∈ xs, (NestedKey.tup (key x)).depth ≤ 8) :
    ∀ σ H Q, tFD M r (fun k => k = foldD key val [] xs) σ H Q → tDn M (tI M r (xs.map enc)) g (ttC M r xs u (fun _ => true) (own.map (·.2))) (tkC M r xs u (fun x => kd (.tup (key x))) (own.map (·.2))) (tkC M r xs u val (own.map (·.2))) (own.map (·.2)) σ H Q := by
  rintro σ H Q ⟨W, hsl, wok, q⟩
  refine ⟨W, hsl, wok, fun J H1 ds ed e1 it => ?_⟩
  subst ed
  intro Dl hDl hb0
  have ok1 := wok.ext e1
  have hsl1 := hsl.ext wok e1
  have hlen : (xs.map enc).length = xs.length := List.length_map _
  refine ⟨fun i m H => m = xs.length - i ∧ i ≤ xs.length ∧ InD M W H1 Dl (foldD key val [] (xs.take i)) H, ⟨xs.length, by simp, Nat.zero_le _, InD.new hDl⟩, ?_⟩
  rintro i m H2 ⟨rfl, hle, a2⟩
  have st2 := a2.stay ok1 hDl
  by_cases hlt : i < xs.length
  · refine .inr ⟨it.go _ i H2 st2 (by rw [hlen]; exact hlt), fun H => InD M W H1 Dl (foldD key val [] (xs.take (i + 1))) H, fun H' p => ⟨xs.length - (i + 1), by omega, rfl, hlt, p⟩, fun x H3 y => ?_⟩
    obtain ⟨sm, d, hd, rx⟩ := it.yld _ i H2 x H3 st2 (by rw [hlen]; exact hlt) y
    obtain ⟨z, hz1, hz2⟩ : ∃ z, xs[i]? = some z ∧ enc z = d := by
      rw [List.getElem?_map] at hd
      cases q : xs[i]? with
      | none => rw [q] at hd; cases hd
      | some z => rw [q] at hd; exact ⟨z, rfl, by simpa using hd⟩
    subst hz2
    have hzm : z ∈ xs := List.mem_of_getElem? hz1
    have a3 := a2.go ok1 hDl (.same sm)
    have ok3 := a3.okD ok1
    have sl3 : Slots M (W.add Dl) H3 r σ := hsl1.car (a3.stay ok1 hDl).car
    refine gd z hzm (W.add Dl) (L2.wipe σ (own.map (·.2))) H3 x _ rx fun σ2 s2 => ?_
    refine ⟨(wipe_sets (hu z hzm) s2).trans (wipe_idem σ _), ?_⟩
    have sl4 : Slots M (W.add Dl) H3 (setsO (u z) (wipeO r (own.map (·.2)))) σ2 := (sl3.wipe _).sets s2
    refine ⟨z, hzm, W.add Dl, sl4, ok3, fun H4 e4 => ?_⟩
    have a4 := a3.go ok1 hDl (Ext.adds.mp e4)
    show ∃ x, x ∈ xs ∧ _
    refine ⟨z, hzm, W.add Dl, sl4.ext ok3 e4, ok3.ext e4, fun yk H5 dk kk e5 rk => ?_⟩
    subst kk
    have a5 := a4.go ok1 hDl (Ext.adds.mp e5)
    refine ⟨z, hzm, W.add Dl, (sl4.ext ok3 e4).ext (ok3.ext e4) e5, (ok3.ext e4).ext e5, fun yv H6 dv kv e6 rv => ?_⟩
    subst kv
    have a6 := a5.go ok1 hDl (Ext.adds.mp e6)
    refine a6.put hDl (rk.ext ((ok3.ext e4).ext e5) e6) rv (hdp z hzm) ?_ fun H' p => ?_
    · have := length_foldD (key := key) (val := val) (xs := xs.take i) (acc := [])
      rw [List.length_take, List.length_nil] at this
      omega
    · show InD M W H1 Dl (foldD key val [] (xs.take (i + 1))) H'
      rw [take_snoc hz1, foldD_snoc]
      exact p
  · have e : i = xs.length := by omega
    subst e
    refine .inl ⟨by rw [← hlen]; exact it.stop _ H2 st2, ?_⟩
    obtain ⟨o, es, h1, h2, h3⟩ := a2.at_
    rw [List.take_length] at h3
    exact q Dl o es H2 _ rfl (e1.free wok hDl) (e1.trans a2.ext) h1 hb0 h2 h3
/-- {k: v for tg in iter} -/
theorem ef_dn {α : Type} {kx vx tg iter : Expr} {scope : Scope} {own : List (Str × Nat)} {pos : Pos} {g : TG} (xs : List α) (enc : α → D) (u : α → List (Nat × D)) (key : α → List NestedKey) (val : α → D)
    (hroom : X.A.units + 64 < cLine) (hc : X.calm = true) (hN : X.N.Nodup) (hi : PI X tg iter (tI (pw X) r (xs.map enc))) (ok : BlkOk X.N X.env.scope scope own)
    (hg : ∀ (s : Shared) (H : Hp) (C : Addr) (cl : List (Str × Addr)) (fp : List Addr), PG (X.blk s H scope (compEnvC scope cl C X.env) fp) tg g) (gd : ∀ x ∈ xs, GD (pw X) g (enc x) (u x)) (hu : ∀ x ∈ xs, ∀ p ∈ u x, p.1 ∈ own.map (·.2))
    (hk : ∀ x ∈ xs, ∀ (s : Shared) (H : Hp) (C : Addr) (cl : List (Str × Addr)) (fp : List Addr), PE (X.blk s H scope (compEnvC scope cl C X.env) fp) kx (tD (pw X) (setsO (u x) (wipeO r (own.map (·.2)))) (kd (.tup (key x)))))
    (he : ∀ x ∈ xs, ∀ (s : Shared) (H : Hp) (C : Addr) (cl : List (Str × Addr)) (fp : List Addr), PE (X.blk s H scope (compEnvC scope cl C X.env) fp) vx (tD (pw X) (setsO (u x) (wipeO r (own.map (·.2)))) (val x)))
    (hz : xs.length < sizeLine) (hdp : ∀ x ∈ xs, (NestedKey.tup (key x)).depth ≤ 8) (hs : ∀ x, foldedSetIterable iter X.env x = pure x := by intro _; rfl) :
    PE X (.DictComp kx vx [⟨tg, iter, [], 0⟩] scope pos) (tFD (pw X) r (fun k => k = foldD key val [] xs)) :=
  (pe_dn (g := g) (tt := ttC (pw X) r xs u (fun _ => true) (own.map (·.2))) (tk := tkC (pw X) r xs u (fun x => kd (.tup (key x))) (own.map (·.2))) (tv := tkC (pw X) r xs u val (own.map (·.2))) hroom hc hN hi ok hg
    (fun s H C cl fp => ⟨fun pins s' σ H' Q I ⟨x, hx, q⟩ => td_tests.run pins s' σ H' Q I q⟩) (fun s H C cl fp => ⟨fun pins s' σ H' Q I ⟨x, hx, q⟩ => (hk x hx s H C cl fp).run pins s' σ H' Q I q⟩)
    (fun s H C cl fp => ⟨fun pins s' σ H' Q I ⟨x, hx, q⟩ => (he x hx s H C cl fp).run pins s' σ H' Q I q⟩) hs).wk (dn_read xs enc u key val gd hu hz hdp)
/-- name = {k: v for ..} on one line, the name a local: the dict as a datum -/
theorem hs_setDc {W : Wd} {H0 : Hp} {r : List Slot} {rest : List Stmt} {E : Ends} {α : Type} {kx vx tg iter : Expr} {scope : Scope} {own : List (Str × Nat)} {pos py pos' : Pos} {x : Str} {g : TG} (i : Nat) (xs : List α) (enc : α → D) (u : α → List (Nat × D)) (key : α → List NestedKey) (val : α → D)
    (hroom : X.A.units + 64 < cLine) (hc : X.calm = true) (hN : X.N.Nodup) (hi : PI X tg iter (tI (pw X) (vis r) (xs.map enc))) (ok : BlkOk X.N X.env.scope scope own)
    (hg : ∀ (s : Shared) (H : Hp) (C : Addr) (cl : List (Str × Addr)) (fp : List Addr), PG (X.blk s H scope (compEnvC scope cl C X.env) fp) tg g) (gd : ∀ x ∈ xs, GD (pw X) g (enc x) (u x)) (hu : ∀ x ∈ xs, ∀ p ∈ u x, p.1 ∈ own.map (·.2))
    (hk : ∀ x ∈ xs, ∀ (s : Shared) (H : Hp) (C : Addr) (cl : List (Str × Addr)) (fp : List Addr), PE (X.blk s H scope (compEnvC scope cl C X.env) fp) kx (tD (pw X) (setsO (u x) (wipeO (vis r) (own.map (·.2)))) (kd (.tup (key x)))))
    (he : ∀ x ∈ xs, ∀ (s : Shared) (H : Hp) (C : Addr) (cl : List (Str × Addr)) (fp : List Addr), PE (X.blk s H scope (compEnvC scope cl C X.env) fp) vx (tD (pw X) (setsO (u x) (wipeO (vis r) (own.map (·.2)))) (val x)))
    (hz : xs.length < sizeLine) (hdp : ∀ x ∈ xs, (NestedKey.tup (key x)).depth ≤ 8) (hr : i < r.length) (k : Hs X rest (At (pw X) W H0 (r.set i (.val (.dct (foldD key val [] xs))))) E)
    (hsw : swapsWith (.DictComp kx vx [⟨tg, iter, [], 0⟩] scope pos) (some (.Name x py)) pos'.line X.env = pure true) (hy : X.N[i]? = some x := by rfl) (hyl : X.env.scope.names.lookup x = some .local := by rfl) (hs : ∀ x, foldedSetIterable iter X.env x = pure x := by intro _; rfl) :
    Hs X (.Assign [.Name x py] (.DictComp kx vx [⟨tg, iter, [], 0⟩] scope pos) pos' :: rest) (At (pw X) W H0 r) E := by
  refine hs_cons (M := At (pw X) W H0 (r.set i (.val (.dct (foldD key val [] xs))))) (ps_setDn (g := g) (tt := ttC (pw X) (vis r) xs u (fun _ => true) (own.map (·.2))) (tk := tkC (pw X) (vis r) xs u (fun x => kd (.tup (key x))) (own.map (·.2))) (tv := tkC (pw X) (vis r) xs u val (own.map (·.2))) hroom hc hN hy hyl hsw hi ok hg
    (fun s H C cl fp => ⟨fun pins s' σ H' Q I ⟨x, hx, q⟩ => td_tests.run pins s' σ H' Q I q⟩) (fun s H C cl fp => ⟨fun pins s' σ H' Q I ⟨x, hx, q⟩ => (hk x hx s H C cl fp).run pins s' σ H' Q I q⟩)
    (fun s H C cl fp => ⟨fun pins s' σ H' Q I ⟨x, hx, q⟩ => (he x hx s H C cl fp).run pins s' σ H' Q I q⟩) hs) (fun σ H a => ?_) k
  refine dn_read xs enc u key val gd hu hz hdp σ H _ (a.tFD hr fun p H2 ds ks a' => ?_)
  subst ks
  have q := a'.frzD (i := i) (List.getElem?_set_self hr)
  rw [List.set_set] at q
  exact q
theorem sw_trueD {kx vx : Expr} {gs : List Comprehension} {scope : Scope} {pos py : Pos} {y : Str} {l : Nat} {env : Env} (hk : env.scope.kind = .function) (hy : env.scope.names.lookup y = some .local) (hl : (py.line == pos.line) = true)
    (ha : (scope.names.any fun (n, k) => n == y && (k == .local || k == .cell)) = false) : swapsWith (.DictComp kx vx gs scope pos) (some (.Name y py)) l env = pure true := by
  have k1 : env.kindOf y = some .local := hy
  have k2 : env.blockKind = .function := by unfold Env.blockKind; rw [hk]; rfl
  unfold swapsWith
  simp only [k2, k1, ha, Expr.pos, hl]
  rfl
/-! two clauses -/
def foldD2 {α β : Type} (ys : α → List β) (key : α → β → List NestedKey) (val : α → β → D) (acc : List (NestedKey × D)) (xs : List α) : List (NestedKey × D) := xs.foldl (fun acc x => foldD (key x) (val x) acc (ys x)) acc
theorem foldD2_snoc {α β : Type} {ys : α → List β} {key : α → β → List NestedKey} {val : α → β → D} {xs : List α} {x : α} {acc : List (NestedKey × D)} : foldD2 ys key val acc (xs ++ [x]) = foldD (key x) (val x) (foldD2 ys key val acc xs) (ys x) := by
  unfold foldD2
  rw [List.foldl_append]; rfl
/-- of the inner source, of the inner key and value -/
def tiC {α : Type} (M : MW) (r : List (Option D)) (xs : List α) (u : α → List (Nat × D)) (f : α → List D) (vs : List Nat) : TI := fun σ H Q => ∃ x, x ∈ xs ∧ tI M (setsO (u x) (wipeO r vs)) (f x) σ H Q
def tkC2 {α β : Type} (M : MW) (r : List (Option D)) (xs : List α) (u : α → List (Nat × D)) (ys : α → List β) (u1 : α → β → List (Nat × D)) (d : α → β → D) (vs vs1 : List Nat) : TE := fun σ H Q => ∃ x, x ∈ xs ∧ ∃ y, y ∈ ys x ∧ tD M (setsO (u1 x y) (wipeO (setsO (u x) (wipeO r vs)) vs1)) (d x y) σ H Q
def ttC2 {α β : Type} (M : MW) (r : List (Option D)) (xs : List α) (u : α → List (Nat × D)) (ys : α → List β) (u1 : α → β → List (Nat × D)) (vs vs1 : List Nat) : TT := fun σ H Q => ∃ x, x ∈ xs ∧ ∃ y, y ∈ ys x ∧ tT M (setsO (u1 x y) (wipeO (setsO (u x) (wipeO r vs)) vs1)) true σ H Q
theorem len2 {α β : Type} {ys : α → List β} {key : α → β → List NestedKey} {val : α → β → D} : ∀ (xs : List α) (acc : List (NestedKey × D)), (foldD2 ys key val acc xs).length ≤ acc.length + ((xs.map fun x => (ys x).length).sum)
  | [], acc => Nat.le_refl _
  | x :: xs, acc => by
    have h := len2 (ys := ys) (key := key) (val := val) xs (foldD (key x) (val x) acc (ys x))
    have g := length_foldD (key := key x) (val := val x) (xs := ys x) (acc := acc)
    show (foldD2 ys key val (foldD (key x) (val x) acc (ys x)) xs).length ≤ _
    rw [List.map_cons, List.sum_cons]
    omega
theorem sum_take_le : ∀ (l : List Nat) (n : Nat), (l.take n).sum ≤ l.sum
  | [], n => by simp
  | a :: l, 0 => by simp
  | a :: l, n + 1 => by
    have := sum_take_le l n
    simp only [List.take_succ_cons, List.sum_cons]
    omega
theorem sum_take_add {l : List Nat} {n a : Nat} (h : l[n]? = some a) : (l.take n).sum + a ≤ l.sum := by
  have := sum_take_le l (n + 1)
  rw [take_snoc h, List.sum_append] at this
  simpa using this
theorem dn2_read {α β : Type} {M : MW} {g g1 : TG} {own : List (Str × Nat)} {vs1 : List Nat} (xs : List α) (enc : α → D) (u : α → List (Nat × D)) (ys : α → List β) (encY : α → β → D) (u1 : α → β → List (Nat × D)) (key : α → β → List NestedKey) (val : α → β → D)
    (gd : ∀ x ∈ xs, GD M g (enc x) (u x)) (hu : ∀ x ∈ xs, ∀ p ∈ u x, p.1 ∈ own.map (·.2)) (gd1 : ∀ x ∈ xs, ∀ y ∈ ys x, GD M g1 (encY x y) (u1 x y)) (hu1 : ∀ x ∈ xs, ∀ y ∈ ys x, ∀ p ∈ u1 x y, p.1 ∈ vs1) (hz : (xs.map fun x => (ys x).length).sum < sizeLine) (hdp : ∀ x ∈ xs, ∀ y ∈ ys x, (NestedKey.tup (key x y)).depth ≤ 8) :
    ∀ σ H Q, tFD M r (fun k => k = foldD2 ys key val [] xs) σ H Q → tDn2 M (tI M r (xs.map enc)) g (ttC M r xs u (fun _ => true) (own.map (·.2))) (tiC M r xs u (fun x => (ys x).map (encY x)) (own.map (·.2))) g1 (ttC2 M r xs u ys u1 (own.map (·.2)) vs1)
      (tkC2 M r xs u ys u1 (fun x y => kd (.tup (key x y))) (own.map (·.2)) vs1) (tkC2 M r xs u ys u1 val (own.map (·.2)) vs1) (own.map (·.2)) vs1 σ H Q := by
  rintro σ H Q ⟨W, hsl, wok, q⟩
  refine ⟨W, hsl, wok, fun J H1 ds ed e1 it => ?_⟩
  subst ed
  intro Dl hDl hb0
  have ok1 := wok.ext e1
  have hsl1 := hsl.ext wok e1
  have hlen : (xs.map enc).length = xs.length := List.length_map _
  refine ⟨fun i m H => m = xs.length - i ∧ i ≤ xs.length ∧ InD M W H1 Dl (foldD2 ys key val [] (xs.take i)) H, ⟨xs.length, by simp, Nat.zero_le _, InD.new hDl⟩, ?_⟩
  rintro i m H2 ⟨rfl, hle, a2⟩
  have st2 := a2.stay ok1 hDl
  by_cases hlt : i < xs.length
  · refine .inr ⟨it.go _ i H2 st2 (by rw [hlen]; exact hlt), fun H => InD M W H1 Dl (foldD2 ys key val [] (xs.take (i + 1))) H, fun H' p => ⟨xs.length - (i + 1), by omega, rfl, hlt, p⟩, fun x H3 y => ?_⟩
    obtain ⟨sm, d, hd, rx⟩ := it.yld _ i H2 x H3 st2 (by rw [hlen]; exact hlt) y
    obtain ⟨z, hz1, hz2⟩ : ∃ z, xs[i]? = some z ∧ enc z = d := by
      rw [List.getElem?_map] at hd
      cases q : xs[i]? with
      | none => rw [q] at hd; cases hd
      | some z => rw [q] at hd; exact ⟨z, rfl, by simpa using hd⟩
    subst hz2
    have hzm : z ∈ xs := List.mem_of_getElem? hz1
    have a3 := a2.go ok1 hDl (.same sm)
    have ok3 := a3.okD ok1
    have sl3 : Slots M (W.add Dl) H3 r σ := hsl1.car (a3.stay ok1 hDl).car
    refine gd z hzm (W.add Dl) (L2.wipe σ (own.map (·.2))) H3 x _ rx fun σ2 s2 => ?_
    refine ⟨(wipe_sets (hu z hzm) s2).trans (wipe_idem σ _), ?_⟩
    have sl4 : Slots M (W.add Dl) H3 (setsO (u z) (wipeO r (own.map (·.2)))) σ2 := (sl3.wipe _).sets s2
    refine ⟨z, hzm, W.add Dl, sl4, ok3, fun H4 e4 => ?_⟩
    have a4 := a3.go ok1 hDl (Ext.adds.mp e4)
    have ok4 := ok3.ext e4
    have sl4' := sl4.ext ok3 e4
    have hcnt : (foldD2 ys key val [] (xs.take i)).length + (ys z).length ≤ (xs.map fun x => (ys x).length).sum := by
      have h1 := len2 (ys := ys) (key := key) (val := val) (xs.take i) []
      have h2 := sum_take_add (l := xs.map fun x => (ys x).length) (n := i) (a := (ys z).length) (by rw [List.getElem?_map, hz1]; rfl)
      rw [List.map_take] at h1
      rw [List.length_nil] at h1
      omega
    show ∃ x, x ∈ xs ∧ _
    refine ⟨z, hzm, W.add Dl, sl4', ok4, fun J1 H5 ds1 ed1 e5 it1 => ?_⟩
    subst ed1
    have a5 := a4.go ok1 hDl (Ext.adds.mp e5)
    have ok5 := ok4.ext e5
    have sl5 := sl4'.ext ok4 e5
    have hlen1 : ((ys z).map (encY z)).length = (ys z).length := List.length_map _
    have hD5 : ∃ o, H5 Dl = some o := let ⟨o, es, h, _⟩ := a5.at_; ⟨_, h⟩
    -- the inner loop; all that stood at H5 stands but the new dict
    have stay5 : ∀ {H : Hp} {kvs : List (NestedKey × D)}, InD M W H1 Dl kvs H → Ext W H5 H ∨ (∀ a o, a ≠ Dl → ¬ W.T a → H5 a = some o → H a = some o) → True := fun _ _ => trivial
    let Pv : Nat → Hp → Prop := fun j H => InD M W H1 Dl (foldD (key z) (val z) (foldD2 ys key val [] (xs.take i)) ((ys z).take j)) H ∧ Car (W.add Dl) (W.add Dl) H5 H
    refine ⟨fun j k H => k = (ys z).length - j ∧ j ≤ (ys z).length ∧ Pv j H, ⟨(ys z).length, by simp, Nat.zero_le _, a5, Car.ext ok5 (.refl _ _)⟩, ?_⟩
    rintro j k H6 ⟨rfl, hle1, a6, c6⟩
    have st6 : Stay (W.add Dl) (W.add Dl) H5 H6 := ⟨c6, (a6.okD ok1).tr⟩
    by_cases hlt1 : j < (ys z).length
    · refine .inr ⟨it1.go _ j H6 st6 (by rw [hlen1]; exact hlt1), Pv (j + 1), fun H' p => ⟨(ys z).length - (j + 1), by omega, rfl, hlt1, p⟩, fun x1 H7 y1 => ?_⟩
      obtain ⟨sm1, d1, hd1, rx1⟩ := it1.yld _ j H6 x1 H7 st6 (by rw [hlen1]; exact hlt1) y1
      obtain ⟨v, hv1, hv2⟩ : ∃ v, (ys z)[j]? = some v ∧ encY z v = d1 := by
        rw [List.getElem?_map] at hd1
        cases q : (ys z)[j]? with
        | none => rw [q] at hd1; cases hd1
        | some v => rw [q] at hd1; exact ⟨v, rfl, by simpa using hd1⟩
      subst hv2
      have hvm : v ∈ ys z := List.mem_of_getElem? hv1
      have a7 := a6.go ok1 hDl (.same sm1)
      have ok7 := a7.okD ok1
      have c7 : Car (W.add Dl) (W.add Dl) H5 H7 := c6.trans (Car.ext (a6.okD ok1) (.same sm1))
      have sl7 : Slots M (W.add Dl) H7 (setsO (u z) (wipeO r (own.map (·.2)))) σ2 := sl5.car c7
      refine gd1 z hzm v hvm (W.add Dl) (L2.wipe σ2 vs1) H7 x1 _ rx1 fun σ3 s3 => ?_
      refine ⟨(wipe_sets (hu1 z hzm v hvm) s3).trans (wipe_idem σ2 _), ?_⟩
      have sl8 : Slots M (W.add Dl) H7 (setsO (u1 z v) (wipeO (setsO (u z) (wipeO r (own.map (·.2)))) vs1)) σ3 := (sl7.wipe _).sets s3
      refine ⟨z, hzm, v, hvm, W.add Dl, sl8, ok7, fun H8 e8 => ?_⟩
      have a8 := a7.go ok1 hDl (Ext.adds.mp e8)
      have ok8 := ok7.ext e8
      show ∃ x, x ∈ xs ∧ _
      refine ⟨z, hzm, v, hvm, W.add Dl, sl8.ext ok7 e8, ok8, fun yk H9 dk kk e9 rk => ?_⟩
      subst kk
      have a9 := a8.go ok1 hDl (Ext.adds.mp e9)
      have ok9 := ok8.ext e9
      refine ⟨z, hzm, v, hvm, W.add Dl, (sl8.ext ok7 e8).ext ok8 e9, ok9, fun yv H10 dv kv e10 rv => ?_⟩
      subst kv
      have a10 := a9.go ok1 hDl (Ext.adds.mp e10)
      have ok10 := ok9.ext e10
      have c10 : Car (W.add Dl) (W.add Dl) H5 H10 := ((c7.trans (Car.ext ok7 e8)).trans (Car.ext ok8 e9)).trans (Car.ext ok9 e10)
      obtain ⟨o, es, g1', g2', g3'⟩ := a10.at_
      have kr : KRep (W.add Dl) H10 (.tup (key z v)) yk := (krep_kd (M := M) _ _).mpr (rk.ext ok9 e10)
      obtain ⟨b, vs, eb, nb, hb, kb⟩ := id kr
      subst eb
      refine ⟨W.add Dl, o, es, _, .tup (key z v), b, g1', g2', g3', rfl, kr, hdp z hzm v hvm, ?_, fun o' uu ru he => ?_⟩
      · rw [g3'.length]
        have := length_foldD (key := key z) (val := val z) (xs := (ys z).take j) (acc := foldD2 ys key val [] (xs.take i))
        rw [List.length_take] at this
        omega
      · have cr : Car (W.add Dl) (W.add Dl) H10 (L2.upd H10 Dl (dO Dl o')) := Car.upd (W := W.add Dl) (.inr rfl)
        have fin := RepKV.put (RepKV.car cr _ _ g3') (KRep.car cr _ _ kr) ru (Rep.car cr _ _ rv)
        rw [← foldD_snoc, ← take_snoc hv1] at fin
        exact ⟨⟨a10.ext.mut hDl, o', _, upd_same, he, fin⟩, c10.trans cr⟩
    · have e : j = (ys z).length := by omega
      subst e
      refine .inl ⟨by rw [← hlen1]; exact it1.stop _ H6 st6, ?_⟩
      show InD M W H1 Dl (foldD2 ys key val [] (xs.take (i + 1))) H6
      rw [take_snoc hz1, foldD2_snoc]
      rw [List.take_length] at a6
      exact a6
  · have e : i = xs.length := by omega
    subst e
    refine .inl ⟨by rw [← hlen]; exact it.stop _ H2 st2, ?_⟩
    obtain ⟨o, es, h1, h2, h3⟩ := a2.at_
    rw [List.take_length] at h3
    exact q Dl o es H2 _ rfl (e1.free wok hDl) (e1.trans a2.ext) h1 hb0 h2 h3
/-- name = {k: v for tg in iter for tg1 in iter1} -/
theorem hs_setDc2 {W : Wd} {H0 : Hp} {r : List Slot} {rest : List Stmt} {E : Ends} {α β : Type} {kx vx tg iter tg1 iter1 : Expr} {scope : Scope} {own : List (Str × Nat)} {vs1 : List Nat} {pos py pos' : Pos} {x : Str} {g g1 : TG} (i : Nat) (xs : List α) (enc : α → D) (u : α → List (Nat × D)) (ys : α → List β) (encY : α → β → D) (u1 : α → β → List (Nat × D)) (key : α → β → List NestedKey) (val : α → β → D)
    (hroom : X.A.units + 64 < cLine) (hc : X.calm = true) (hN : X.N.Nodup) (hi : PI X tg iter (tI (pw X) (vis r) (xs.map enc))) (ok : BlkOk X.N X.env.scope scope own) (hv : ∀ i ∈ vs1, i ∈ own.map (·.2))
    (hg : ∀ (s : Shared) (H : Hp) (C : Addr) (cl : List (Str × Addr)) (fp : List Addr), PG (X.blk s H scope (compEnvC scope cl C X.env) fp) tg g) (gd : ∀ x ∈ xs, GD (pw X) g (enc x) (u x)) (hu : ∀ x ∈ xs, ∀ p ∈ u x, p.1 ∈ own.map (·.2))
    (hi1 : ∀ x ∈ xs, ∀ (s : Shared) (H : Hp) (C : Addr) (cl : List (Str × Addr)) (fp : List Addr), PI (X.blk s H scope (compEnvC scope cl C X.env) fp) tg1 iter1 (tI (pw X) (setsO (u x) (wipeO (vis r) (own.map (·.2)))) ((ys x).map (encY x))))
    (hg1 : ∀ (s : Shared) (H : Hp) (C : Addr) (cl : List (Str × Addr)) (fp : List Addr), PG (X.blk s H scope (compEnvC scope cl C X.env) fp) tg1 g1) (gd1 : ∀ x ∈ xs, ∀ y ∈ ys x, GD (pw X) g1 (encY x y) (u1 x y)) (hu1 : ∀ x ∈ xs, ∀ y ∈ ys x, ∀ p ∈ u1 x y, p.1 ∈ vs1)
    (hk : ∀ x ∈ xs, ∀ y ∈ ys x, ∀ (s : Shared) (H : Hp) (C : Addr) (cl : List (Str × Addr)) (fp : List Addr), PE (X.blk s H scope (compEnvC scope cl C X.env) fp) kx (tD (pw X) (setsO (u1 x y) (wipeO (setsO (u x) (wipeO (vis r) (own.map (·.2)))) vs1)) (kd (.tup (key x y)))))
    (he : ∀ x ∈ xs, ∀ y ∈ ys x, ∀ (s : Shared) (H : Hp) (C : Addr) (cl : List (Str × Addr)) (fp : List Addr), PE (X.blk s H scope (compEnvC scope cl C X.env) fp) vx (tD (pw X) (setsO (u1 x y) (wipeO (setsO (u x) (wipeO (vis r) (own.map (·.2)))) vs1)) (val x y)))
    (hz : (xs.map fun x => (ys x).length).sum < sizeLine) (hdp : ∀ x ∈ xs, ∀ y ∈ ys x, (NestedKey.tup (key x y)).depth ≤ 8) (hr : i < r.length) (k : Hs X rest (At (pw X) W H0 (r.set i (.val (.dct (foldD2 ys key val [] xs))))) E)
    (hsw : swapsWith (.DictComp kx vx [⟨tg, iter, [], 0⟩, ⟨tg1, iter1, [], 0⟩] scope pos) (some (.Name x py)) pos'.line X.env = pure true) (hy : X.N[i]? = some x := by rfl) (hyl : X.env.scope.names.lookup x = some .local := by rfl) (hs : ∀ x, foldedSetIterable iter X.env x = pure x := by intro _; rfl) (hs1 : ∀ env x, foldedSetIterable iter1 env x = pure x := by intro _ _; rfl) :
    Hs X (.Assign [.Name x py] (.DictComp kx vx [⟨tg, iter, [], 0⟩, ⟨tg1, iter1, [], 0⟩] scope pos) pos' :: rest) (At (pw X) W H0 r) E := by
  refine hs_cons (M := At (pw X) W H0 (r.set i (.val (.dct (foldD2 ys key val [] xs))))) (ps_setDn2 (g := g) (g1 := g1) (tt := ttC (pw X) (vis r) xs u (fun _ => true) (own.map (·.2))) (wi1 := tiC (pw X) (vis r) xs u (fun x => (ys x).map (encY x)) (own.map (·.2))) (tt1 := ttC2 (pw X) (vis r) xs u ys u1 (own.map (·.2)) vs1)
      (tk := tkC2 (pw X) (vis r) xs u ys u1 (fun x y => kd (.tup (key x y))) (own.map (·.2)) vs1) (te := tkC2 (pw X) (vis r) xs u ys u1 val (own.map (·.2)) vs1) hroom hc hN hy hyl hsw hi ok hv hg
    (fun s H C cl fp => ⟨fun pins s' σ H' Q I ⟨x, hx, q⟩ => td_tests.run pins s' σ H' Q I q⟩)
    (fun s H C cl fp => ⟨fun pins s' σ H' Q I ⟨x, hx, q⟩ => (hi1 x hx s H C cl fp).run pins s' σ H' Q I q⟩) hg1
    (fun s H C cl fp => ⟨fun pins s' σ H' Q I ⟨x, hx, y, hy, q⟩ => td_tests.run pins s' σ H' Q I q⟩)
    (fun s H C cl fp => ⟨fun pins s' σ H' Q I ⟨x, hx, y, hy, q⟩ => (hk x hx y hy s H C cl fp).run pins s' σ H' Q I q⟩)
    (fun s H C cl fp => ⟨fun pins s' σ H' Q I ⟨x, hx, y, hy, q⟩ => (he x hx y hy s H C cl fp).run pins s' σ H' Q I q⟩) hs hs1) (fun σ H a => ?_) k
  refine dn2_read xs enc u ys encY u1 key val gd hu gd1 hu1 hz hdp σ H _ (a.tFD hr fun p H2 ds ks a' => ?_)
  subst ks
  have q := a'.frzD (i := i) (List.getElem?_set_self hr)
  rw [List.set_set] at q
  exact q
end
end PD

set_option Elab.async false
set_option linter.all false
set_option maxRecDepth 100000
set_option maxHeartbeats 2000000
/-! Pd14: the order of nested keys; sorted. -/
namespace PD
open PySem L2 PySem.Spec PyProof.Rows
mutual
def kLt : NestedKey → NestedKey → Bool
  | .none, .none => false
  | .none, .num _ => true
  | .none, .text _ => true
  | .none, .tup _ => true
  | .num _, .none => false
  | .num a, .num b => decide (a < b)
  | .num _, .text _ => true
  | .num _, .tup _ => true
  | .text _, .none => false
  | .text _, .num _ => false
  | .text _, .text _ => false
  | .text _, .tup _ => true
  | .tup _, .none => false
  | .tup _, .num _ => false
  | .tup _, .text _ => false
  | .tup a, .tup b => kLts a b
termination_by a b => sizeOf a + sizeOf b
def kLts : List NestedKey → List NestedKey → Bool
  | [], [] => false
  | [], _ :: _ => true
  | _ :: _, [] => false
  | a :: as, b :: bs => kLt a b || (!(kLt b a) && kLts as bs)
termination_by a b => sizeOf a + sizeOf b
end
mutual
theorem kLt_asym : ∀ a b : NestedKey, kLt a b = true → kLt b a = false
  | .num a, .num b, h => by
    unfold kLt at h ⊢
    simp only [decide_eq_true_eq, decide_eq_false_iff_not] at h ⊢
    omega
  | .tup a, .tup b, h => by
    unfold kLt at h ⊢
    exact kLts_asym a b h
  | .none, .num _, h => by unfold kLt; rfl
  | .none, .text _, h => by unfold kLt; rfl
  | .none, .tup _, h => by unfold kLt; rfl
  | .num _, .text _, h => by unfold kLt; rfl
  | .num _, .tup _, h => by unfold kLt; rfl
  | .text _, .tup _, h => by unfold kLt; rfl
  | .none, .none, h => by unfold kLt at h; cases h
  | .num _, .none, h => by unfold kLt at h; cases h
  | .text _, .none, h => by unfold kLt at h; cases h
  | .text _, .num _, h => by unfold kLt at h; cases h
  | .text _, .text _, h => by unfold kLt at h; cases h
  | .tup _, .none, h => by unfold kLt at h; cases h
  | .tup _, .num _, h => by unfold kLt at h; cases h
  | .tup _, .text _, h => by unfold kLt at h; cases h
theorem kLts_asym : ∀ a b : List NestedKey, kLts a b = true → kLts b a = false
  | [], [], h => by unfold kLts at h; cases h
  | [], _ :: _, h => by unfold kLts; rfl
  | _ :: _, [], h => by unfold kLts at h; cases h
  | a :: as, b :: bs, h => by
    unfold kLts at h ⊢
    simp only [Bool.or_eq_true, Bool.and_eq_true, Bool.not_eq_true', Bool.or_eq_false_iff, Bool.and_eq_false_iff, Bool.not_eq_false'] at h ⊢
    rcases h with h | ⟨h1, h2⟩
    · exact ⟨kLt_asym a b h, .inl h⟩
    · exact ⟨h1, .inr (kLts_asym as bs h2)⟩
end
mutual
theorem kLt_tr : ∀ x y z : NestedKey, kLt y x = false → kLt z y = false → kLt z x = false
  | x, y, z, h1, h2 => by
    cases x <;> cases y <;> cases z <;> first
      | (unfold kLt; rfl)
      | (exfalso; unfold kLt at h1; cases h1; done)
      | (exfalso; unfold kLt at h2; cases h2; done)
      | skip
    · unfold kLt at h1 h2 ⊢
      simp only [decide_eq_false_iff_not] at h1 h2 ⊢
      omega
    · unfold kLt at h1 h2 ⊢
      exact kLts_tr _ _ _ h1 h2
termination_by x y z => sizeOf x + sizeOf y + sizeOf z
theorem kLts_tr : ∀ x y z : List NestedKey, kLts y x = false → kLts z y = false → kLts z x = false
  | [], _, [], _, _ => by unfold kLts; rfl
  | [], _, _ :: _, _, _ => by unfold kLts; rfl
  | _ :: _, [], [], h1, _ => by unfold kLts at h1; cases h1
  | _ :: _, _ :: _, [], _, h2 => by unfold kLts at h2; cases h2
  | _ :: _, [], _ :: _, h1, _ => by unfold kLts at h1; cases h1
  | a :: as, b :: bs, c :: cs, h1, h2 => by
    unfold kLts at h1 h2 ⊢
    simp only [Bool.or_eq_false_iff, Bool.and_eq_false_iff, Bool.not_eq_false'] at h1 h2 ⊢
    refine ⟨kLt_tr a b c h1.1 h2.1, ?_⟩
    by_cases hac : kLt a c = true
    · exact .inl hac
    · have hac : kLt a c = false := by simpa using hac
      refine .inr ?_
      rcases h1.2 with p | p
      · have := kLt_tr b c a h2.1 hac
        rw [p] at this; cases this
      · rcases h2.2 with q | q
        · have := kLt_tr c a b hac h1.1
          rw [q] at this; cases this
        · exact kLts_tr as bs cs p q
termination_by x y z => sizeOf x + sizeOf y + sizeOf z
end
/-! every place comparable -/
mutual
def kCmp : NestedKey → NestedKey → Bool
  | .num _, .num _ => true
  | .tup a, .tup b => kCmps a b
  | .none, _ => false
  | .text _, _ => false
  | .num _, .none => false
  | .num _, .text _ => false
  | .num _, .tup _ => false
  | .tup _, .none => false
  | .tup _, .num _ => false
  | .tup _, .text _ => false
def kCmps : List NestedKey → List NestedKey → Bool
  | [], _ => true
  | _ :: _, [] => true
  | a :: as, b :: bs => kCmp a b && kCmps as bs
end
mutual
/-- where all is comparable: unequal ones are in order -/
theorem kLt_self : ∀ a : NestedKey, kLt a a = false
  | .none => by unfold kLt; rfl
  | .num i => by unfold kLt; simp
  | .text _ => by unfold kLt; rfl
  | .tup ks => by unfold kLt; exact kLts_self ks
theorem kLts_self : ∀ a : List NestedKey, kLts a a = false
  | [] => by unfold kLts; rfl
  | a :: as => by unfold kLts; rw [kLt_self a, kLts_self as]; rfl
end
mutual
theorem kLt_eq : ∀ a b : NestedKey, kCmp a b = true → kLt a b = false → kLt b a = false → a = b
  | .num a, .num b, _, h1, h2 => by
    unfold kLt at h1 h2
    simp only [decide_eq_false_iff_not] at h1 h2
    rw [show a = b by omega]
  | .tup a, .tup b, h, h1, h2 => by
    unfold kLt at h1 h2
    unfold kCmp at h
    rw [kLts_eq a b h h1 h2]
  | .none, _, h, _, _ => by unfold kCmp at h; cases h
  | .text _, _, h, _, _ => by unfold kCmp at h; cases h
  | .num _, .none, h, _, _ => by unfold kCmp at h; cases h
  | .num _, .text _, h, _, _ => by unfold kCmp at h; cases h
  | .num _, .tup _, h, _, _ => by unfold kCmp at h; cases h
  | .tup _, .none, h, _, _ => by unfold kCmp at h; cases h
  | .tup _, .num _, h, _, _ => by unfold kCmp at h; cases h
  | .tup _, .text _, h, _, _ => by unfold kCmp at h; cases h
theorem kLts_eq : ∀ a b : List NestedKey, kCmps a b = true → kLts a b = false → kLts b a = false → a = b
  | [], [], _, _, _ => rfl
  | [], _ :: _, _, h, _ => by unfold kLts at h; cases h
  | _ :: _, [], _, _, h => by unfold kLts at h; cases h
  | a :: as, b :: bs, h, h1, h2 => by
    unfold kCmps at h
    unfold kLts at h1 h2
    simp only [Bool.and_eq_true, Bool.or_eq_false_iff, Bool.and_eq_false_iff, Bool.not_eq_false'] at h h1 h2
    have e := kLt_eq a b h.1 h1.1 h2.1
    subst e
    rcases h1.2 with p | p
    · rw [kLt_self] at p; cases p
    · rcases h2.2 with q | q
      · rw [kLt_self] at q; cases q
      · rw [kLts_eq as bs h.2 p q]
end
/-- the walk from place i on -/
theorem kLts_lexAt : ∀ (xs ys : List NestedKey) (e r : Nat → Bool) (i : Nat), kCmps xs ys = true → (∀ j, e (i + j) = NestedKey.beq (xs.getD j .none) (ys.getD j .none)) → (∀ j, r (i + j) = kLt (xs.getD j .none) (ys.getD j .none)) →
    Ob.lexAt e r (decide (xs.length < ys.length)) i (min xs.length ys.length) = kLts xs ys
  | [], [], e, r, i, _, _, _ => by unfold kLts; rfl
  | [], _ :: _, e, r, i, _, _, _ => by unfold kLts; simp [Ob.lexAt]
  | _ :: _, [], e, r, i, _, _, _ => by unfold kLts; simp [Ob.lexAt]
  | x :: xs, y :: ys, e, r, i, h, he, hr => by
    have e1 : min (x :: xs).length (y :: ys).length = min xs.length ys.length + 1 := by simp only [List.length_cons]; omega
    have e2 : decide ((x :: xs).length < (y :: ys).length) = decide (xs.length < ys.length) := by simp
    unfold kCmps at h
    simp only [Bool.and_eq_true] at h
    have he0 : e i = NestedKey.beq x y := by simpa using he 0
    have hr0 : r i = kLt x y := by simpa using hr 0
    have ih := kLts_lexAt xs ys e r (i + 1) h.2 (fun j => by have := he (j + 1); rw [show i + (j + 1) = i + 1 + j by omega] at this; simpa using this) (fun j => by have := hr (j + 1); rw [show i + (j + 1) = i + 1 + j by omega] at this; simpa using this)
    rw [e1, e2, Ob.lexAt_succ, he0, hr0, ih, show kLts (x :: xs) (y :: ys) = (kLt x y || (!(kLt y x) && kLts xs ys)) from by rw [kLts]]
    cases q : NestedKey.beq x y with
    | true =>
      have := NestedKey.eq_of_beq x y q
      subst this
      rw [if_pos rfl, kLt_self]; simp
    | false =>
      rw [if_neg Bool.false_ne_true]
      cases p : kLt x y with
      | true => rfl
      | false =>
        cases p2 : kLt y x with
        | true => rfl
        | false =>
          have := kLt_eq x y h.1 p p2
          rw [this, NestedKey.beq_self] at q
          cases q
/-! keys of ints and tuples, in the model's heap -/
mutual
def NI (h : Heap) : NestedKey → Value → Prop
  | .num i, v => ∃ t, v = .int i t
  | .tup ks, v => ∃ a o vs n, v = .ref a ∧ h.get? a = some o ∧ o.cls = .type "tuple" ∧ o.data = .seq vs n ∧ NIs h ks vs.toList
  | .none, _ => False
  | .text _, _ => False
def NIs (h : Heap) : List NestedKey → List Value → Prop
  | [], vs => vs = []
  | k :: ks, vs => ∃ v r, vs = v :: r ∧ NI h k v ∧ NIs h ks r
end
mutual
theorem NI.is {h : Heap} : ∀ (k : NestedKey) (v : Value), NI h k v → NestedIs h k v
  | .num i, v, ⟨t, e⟩ => by rw [e]; exact .int i t
  | .tup ks, v, ⟨a, o, vs, n, e, h1, h2, h3, h4⟩ => by rw [e]; exact .tup h1 h2 h3 (NIs.is ks _ h4)
theorem NIs.is {h : Heap} : ∀ (ks : List NestedKey) (vs : List Value), NIs h ks vs → NestedAll h ks vs
  | [], vs, e => by rw [show vs = [] from e]; exact .nil
  | k :: ks, vs, ⟨v, r, e, h1, h2⟩ => by rw [e]; exact .cons (NI.is k v h1) (NIs.is ks r h2)
end
mutual
theorem NI.at {h h' : Heap} (hk : ∀ a o, h.get? a = some o → o.cls = .type "tuple" → h'.get? a = some o) : ∀ (k : NestedKey) (v : Value), NI h k v → NI h' k v
  | .num i, v, x => x
  | .tup ks, v, ⟨a, o, vs, n, e, h1, h2, h3, h4⟩ => ⟨a, o, vs, n, e, hk a o h1 h2, h2, h3, NIs.at hk ks _ h4⟩
theorem NIs.at {h h' : Heap} (hk : ∀ a o, h.get? a = some o → o.cls = .type "tuple" → h'.get? a = some o) : ∀ (ks : List NestedKey) (vs : List Value), NIs h ks vs → NIs h' ks vs
  | [], vs, e => e
  | k :: ks, vs, ⟨v, r, e, h1, h2⟩ => ⟨v, r, e, NI.at hk k v h1, NIs.at hk ks r h2⟩
end
theorem NIs.length {h : Heap} : ∀ (ks : List NestedKey) (vs : List Value), NIs h ks vs → vs.length = ks.length
  | [], vs, e => by rw [show vs = [] from e]; rfl
  | k :: ks, vs, ⟨v, r, e, h1, h2⟩ => by rw [e, List.length_cons, List.length_cons, NIs.length ks r h2]
theorem NIs.getD {h : Heap} : ∀ (ks : List NestedKey) (vs : List Value) (j : Nat) (hj : j < vs.length), NIs h ks vs → NI h (ks.getD j .none) vs[j]
  | [], vs, j, hj, e => by rw [show vs = [] from e] at hj; exact absurd hj (Nat.not_lt_zero _)
  | k :: ks, vs, 0, hj, ⟨v, r, e, h1, h2⟩ => by subst e; exact h1
  | k :: ks, vs, j + 1, hj, ⟨v, r, e, h1, h2⟩ => by
    subst e
    have := NIs.getD ks r j (by simpa using hj) h2
    simpa using this
theorem getD_depth : ∀ (ks : List NestedKey) (j : Nat), (ks.getD j .none).depth ≤ NestedKey.depthAll ks
  | [], j => by simp [NestedKey.depth, NestedKey.depthAll]
  | k :: ks, 0 => by simp only [List.getD_cons_zero, NestedKey.depthAll]; omega
  | k :: ks, j + 1 => by
    have := getD_depth ks j
    simp only [List.getD_cons_succ, NestedKey.depthAll]
    omega
theorem getD_cmp : ∀ (xs ys : List NestedKey) (j : Nat), kCmps xs ys = true → j < xs.length → j < ys.length → kCmp (xs.getD j .none) (ys.getD j .none) = true
  | [], _, j, _, h, _ => absurd h (Nat.not_lt_zero _)
  | _ :: _, [], j, _, _, h => absurd h (Nat.not_lt_zero _)
  | x :: xs, y :: ys, 0, h, _, _ => by
    unfold kCmps at h
    simp only [Bool.and_eq_true] at h
    simpa using h.1
  | x :: xs, y :: ys, j + 1, h, h1, h2 => by
    unfold kCmps at h
    simp only [Bool.and_eq_true] at h
    have := getD_cmp xs ys j h.2 (by simpa using h1) (by simpa using h2)
    simpa using this
theorem getD_size (xs : List NestedKey) (j : Nat) (h : j < xs.length) : sizeOf (xs.getD j .none) < sizeOf xs := by
  have e : xs.getD j .none = xs[j] := by simp [h]
  rw [e]
  exact List.sizeOf_lt_of_mem (List.getElem_mem h)
theorem lt_key : ∀ (x y : NestedKey) (A : Around) (s : Shared) (a b : Value), NI s.heap x a → NI s.heap y b → kCmp x y = true → A.units + x.depth + y.depth < cLine → Ob.RcOp .Lt A s a b (kLt x y)
  | .num i, .num j, A, s, a, b, ⟨t, ea⟩, ⟨u, eb⟩, _, hu => by
    subst ea; subst eb
    rw [kLt]
    exact Ob.RcOp.lt_int i j t u
  | .tup xs, .tup ys, A, s, _, _, ⟨l, o, vs, n, ea, h1, h2, h3, h4⟩, ⟨l', o', vs', n', eb, k1, k2, k3, k4⟩, hc, hu => by
    subst ea; subst eb
    unfold kCmp at hc
    simp only [NestedKey.depth] at hu
    have n1 : vs.size = xs.length := by simpa using NIs.length _ _ h4
    have n2 : vs'.size = ys.length := by simpa using NIs.length _ _ k4
    have hl : s.heap.IsTuple l vs := ⟨_, h1, h2, _, h3⟩
    have hl' : s.heap.IsTuple l' vs' := ⟨_, k1, k2, _, k3⟩
    have key := Ob.RcOp.tuples_lt (A := A) (e := keyEqAt xs ys) (r := fun j => kLt (xs.getD j .none) (ys.getD j .none)) hl hl' (by omega) (fun j j1 j2 => ?_) (fun j j1 j2 _ => ?_)
    · rw [n1, n2, kLts_lexAt xs ys _ _ 0 hc (fun j => by rw [Nat.zero_add]) (fun j => by rw [Nat.zero_add])] at key
      rw [kLt]
      exact key
    · have := eqAt_keys xs ys A.in1 s vs.toList vs'.toList (NIs.is _ _ h4) (NIs.is _ _ k4) (by show A.units + 1 + _ < _; omega) j (by simpa using j1) (by simpa using j2)
      simpa using this
    · have a1 := NIs.getD xs vs.toList j (by simpa using j1) h4
      have a2 := NIs.getD ys vs'.toList j (by simpa using j2) k4
      have d1 := getD_depth xs j
      have d2 := getD_depth ys j
      have := lt_key (xs.getD j .none) (ys.getD j .none) A.in1 s _ _ a1 a2 (getD_cmp xs ys j hc (by omega) (by omega)) (by show A.units + 1 + _ + _ < _; omega)
      simpa using this
  | .none, _, _, _, _, _, h, _, _, _ => h.elim
  | .text _, _, _, _, _, _, h, _, _, _ => h.elim
  | .num _, .none, _, _, _, _, _, h, _, _ => h.elim
  | .num _, .text _, _, _, _, _, _, h, _, _ => h.elim
  | .num _, .tup _, _, _, _, _, _, _, h, _ => by unfold kCmp at h; cases h
  | .tup _, .none, _, _, _, _, _, h, _, _ => h.elim
  | .tup _, .num _, _, _, _, _, _, _, h, _ => by unfold kCmp at h; cases h
  | .tup _, .text _, _, _, _, _, _, h, _, _ => h.elim
termination_by x => sizeOf x
decreasing_by
  have := getD_size xs j (by omega)
  simp only [NestedKey.tup.sizeOf_spec]
  omega
end PD

set_option Elab.async false
set_option linter.all false
set_option maxRecDepth 100000
set_option maxHeartbeats 2000000
/-! Pd15: sorted of lists and dicts of keys. -/
namespace PD
open PySem L2 PySem.Spec PyProof.Rows
section
variable {prog : Program} {w : World} {A : Around} {s : Shared}
theorem katlex {Q : Bool → Shared → Prop} (b : Bool) : ∀ (xs ys : List NestedKey) (vs us : List Value) (i : Nat) (fin : Bool), NIs s.heap xs vs → NIs s.heap ys us → kCmps xs ys = true → A.units + NestedKey.depthAll xs + NestedKey.depthAll ys + 1 < cLine → fin = decide (xs.length < ys.length) →
    (b = true → i = 0 → ∃ p q r r', xs = .num p :: r ∧ ys = .num q :: r') → Q (kLts xs ys) s → PySem.W.KatLex prog w A b fin Q (vs.zip us) i s
  | [], [], vs, us, i, fin, hx, hy, _, _, hf, _, h => by
    rw [show vs = [] from hx, hf]
    rw [kLts] at h
    exact PySem.W.kat_nil h
  | [], y :: ys, vs, us, i, fin, hx, hy, _, _, hf, _, h => by
    rw [show vs = [] from hx, hf]
    rw [kLts] at h
    exact PySem.W.kat_nil (by simpa using h)
  | x :: xs, [], vs, us, i, fin, hx, hy, _, _, hf, _, h => by
    rw [show us = [] from hy, List.zip_nil_right, hf]
    rw [kLts] at h
    exact PySem.W.kat_nil (by simpa using h)
  | x :: xs, y :: ys, vs, us, i, fin, ⟨v, r, ev, h1, h2⟩, ⟨u, r', eu, k1, k2⟩, hc, hu, hf, h0, h => by
    subst ev; subst eu
    unfold kCmps at hc
    simp only [Bool.and_eq_true] at hc
    simp only [NestedKey.depthAll] at hu
    rw [kLts] at h
    rw [List.zip_cons_cons]
    refine PySem.W.kat_cons (eqAt_key x y A s v u (NI.is _ _ h1) (NI.is _ _ k1) (by omega) prog w _ _ ?_)
    refine PySem.W.kat_go (fun e1 => ?_) (fun e1 => ?_)
    · have ex := NestedKey.eq_of_beq x y e1
      refine PySem.W.kat_yes (katlex b xs ys r r' (i + 1) fin h2 k2 hc.2 (by omega) (by rw [hf]; simp) (fun _ z => absurd z (Nat.succ_ne_zero i)) ?_)
      rw [ex, kLt_self] at h
      simpa using h
    · have hne : x ≠ y := fun z => by rw [z, NestedKey.beq_self] at e1; cases e1
      have hval : (kLt x y || (!(kLt y x) && kLts xs ys)) = kLt x y := by
        cases q : kLt x y with
        | true => rfl
        | false =>
          cases q2 : kLt y x with
          | true => rfl
          | false => exact absurd (kLt_eq x y hc.1 q q2) hne
      rw [hval] at h
      refine PySem.W.kat_no ?_
      by_cases hb : (b && i == 0) = true
      · simp only [Bool.and_eq_true, beq_iff_eq] at hb
        obtain ⟨p, q, r1, r2, ex, ey⟩ := h0 hb.1 hb.2
        cases ex; cases ey
        obtain ⟨t, rfl⟩ := h1
        obtain ⟨t', rfl⟩ := k1
        rw [kLt] at h
        exact TS.oneLt_ints _ h
      · have hb : (b && i == 0) = false := by simpa using hb
        rw [hb]
        exact PySem.W.kat_one _ _ (lt_key x y A s v u h1 k1 hc.1 (by omega) prog w _ _ h)
/-- what can be sorted: tuples with an int ahead, of small depth, comparable two by two -/
structure SortK (ks : List NestedKey) : Prop where
  hd : ∀ k ∈ ks, ∃ i r, k = .tup (.num i :: r)
  dp : ∀ k ∈ ks, k.depth ≤ 8
  cm : ∀ k ∈ ks, ∀ k' ∈ ks, kCmp k k' = true
theorem cmp_keys {vs : List Value} {kf : Value → NestedKey} {ks : List NestedKey} (S : SortK ks) (hu : A.units + 20 < cLine) (hv : ∀ v ∈ vs, NI s.heap (kf v) v ∧ kf v ∈ ks) : SrtO.Cmp prog w A s (tuples' true) (fun p => p.1 ∈ vs) (SrtO.lt2 fun v u => kLt (kf v) (kf u)) := by
  intro p q hm hm'
  obtain ⟨h1, m1⟩ := hv _ hm
  obtain ⟨h2, m2⟩ := hv _ hm'
  show wpAny (model prog w) A (keyLt' (tuples' true) p.1 q.1) (fun r s' => s' = s ∧ r = kLt (kf p.1) (kf q.1)) (fun _ _ => False) s
  generalize kf p.1 = x at h1 m1 ⊢
  generalize kf q.1 = y at h2 m2 ⊢
  obtain ⟨i, r, ex⟩ := S.hd x m1
  obtain ⟨i', r', ey⟩ := S.hd y m2
  have hc := S.cm x m1 y m2
  have d1 := S.dp x m1
  have d2 := S.dp y m2
  subst ex; subst ey
  obtain ⟨a, o, xs, n, ea, g1, g2, g3, g4⟩ := h1
  obtain ⟨a', o', xs', n', ea', g1', g2', g3', g4'⟩ := h2
  rw [ea, ea']
  unfold kCmp at hc
  simp only [NestedKey.depth] at d1 d2
  have n1 : xs.size = (NestedKey.num i :: r).length := by simpa using NIs.length _ _ g4
  have n2 : xs'.size = (NestedKey.num i' :: r').length := by simpa using NIs.length _ _ g4'
  refine PySem.W.kat_lt g1 g3 g1' g3' (katlex true _ _ _ _ 0 _ g4 g4' hc (by omega) (by rw [n1, n2]) (fun _ _ => ⟨i, i', r, r', rfl, rfl⟩) ⟨rfl, ?_⟩)
  rw [kLt]
theorem firsts_keys {h : Heap} : ∀ {vs : List Value}, (∀ v ∈ vs, ∃ i r, NI h (.tup (.num i :: r)) v) → ∃ fs : List Value, PySem.W.KatTups h vs fs ∧ fs.length = vs.length ∧ ∀ f ∈ fs, ∃ i t, f = .int i t
  | [], _ => ⟨[], PySem.W.KatTups.nil, rfl, fun _ h => nomatch h⟩
  | v :: vs, hv => by
    obtain ⟨fs, h1, h2, h3⟩ := firsts_keys (vs := vs) fun u hu => hv u (List.mem_cons_of_mem _ hu)
    obtain ⟨i, r, a, o, xs, n, ea, g1, g2, g3, g4⟩ := hv v List.mem_cons_self
    obtain ⟨f, rr, ef, ⟨t, et⟩, _⟩ := g4
    subst ea
    have hf : xs[0]? = some f := by rw [← Array.getElem?_toList, ef]; rfl
    refine ⟨f :: fs, PySem.W.KatTups.cons g1 g2 g3 hf h1, by rw [List.length_cons, List.length_cons, h2], fun z hz => ?_⟩
    rcases List.mem_cons.mp hz with e | e
    · rw [e]; exact ⟨i, t, et⟩
    · exact h3 z e
theorem keys_sortable {a : Addr} {vs : List Value} {kf : Value → NestedKey} {ks : List NestedKey} (S : SortK ks) (hu : A.units + 20 < cLine) (h0 : 0 < vs.length) (hv : ∀ v ∈ vs, NI s.heap (kf v) v ∧ kf v ∈ ks) (ha : ∀ o, s.heap.get? a = some o → o.cls ≠ .type "tuple") :
    SrtO.SortableO prog w A s a vs fun v u => kLt (kf v) (kf u) := by
  intro h' keep
  have hv' : ∀ v ∈ vs, NI h' (kf v) v ∧ kf v ∈ ks := fun v hm => ⟨NI.at (fun b o e c => keep b o (fun z => by subst z; exact ha o e c) e) _ _ (hv v hm).1, (hv v hm).2⟩
  obtain ⟨fs, h1, h2, h3⟩ := firsts_keys (h := h') (vs := vs) fun v hm => by
    obtain ⟨i, r, e⟩ := S.hd _ (hv' v hm).2
    exact ⟨i, r, by rw [← e]; exact (hv' v hm).1⟩
  refine ⟨tuples' true, fun Q E hq => ?_, cmp_keys (s := { s with heap := h' }) S hu hv'⟩
  refine PySem.W.kat_kind (T := .type "int") h1 (by omega) (fun f hm => ?_) (by rfl) ?_
  · obtain ⟨x, t, rfl⟩ := h3 f hm
    exact PySem.W.Looks.now
  · have e : (Value.type "int" != Value.type "tuple") = true := by first | decide +kernel | rfl | decide
    rw [e]
    exact hq
theorem swo_keys (kf : Value → NestedKey) : SrtO.Swo fun v u => kLt (kf v) (kf u) := ⟨fun x y h => kLt_asym _ _ h, fun x y z h1 h2 => kLt_tr _ _ _ h1 h2⟩
end
/-! ### keys that stand in the abstract heap -/
mutual
/-- a key of ints and tuples alone -/
def kPure : NestedKey → Bool
  | .num _ => true
  | .tup ks => kPures ks
  | .none => false
  | .text _ => false
def kPures : List NestedKey → Bool
  | [] => true
  | k :: ks => kPure k && kPures ks
end
section
variable {X : Cx} {pins : List (Addr × Obj)} {σ : L2.St} {H : Hp} {s : Shared} {W : Wd}
mutual
theorem krep_NI (I : Inv X pins σ H s) : ∀ (k : NestedKey) (v : V) (u : Value), kPure k = true → KRep W H k v → RelV v u → NI s.heap k u
  | .none, v, u, p, h, r => by unfold kPure at p; cases p
  | .num i, v, u, p, h, r => by
    rw [show v = V.int i from h] at r
    exact r
  | .text x, v, u, p, h, r => by unfold kPure at p; cases p
  | .tup ks, v, u, p, h, r => by
    unfold kPure at p
    obtain ⟨a, vs, e, n, ⟨o', od, h1⟩, h2⟩ := h
    subst e
    obtain rfl : u = Value.ref a := r
    obtain ⟨_, _, its, rv, o, e1, e2, m, e3⟩ := (show ObjOk X.prog X.w H s.heap a (.frz o' (.tup vs)) from I.hok a _ h1)
    exact ⟨a, o, _, m, rfl, e1, e2, e3, krepL_NI I ks vs its p h2 rv⟩
theorem krepL_NI (I : Inv X pins σ H s) : ∀ (ks : List NestedKey) (vs : List V) (us : List Value), kPures ks = true → KRepL W H ks vs → Vals vs us → NIs s.heap ks us
  | [], vs, us, p, h, r => by
    rw [show vs = [] from h] at r
    cases r
    rfl
  | k :: ks, vs, us, p, h, r => by
    unfold kPures at p
    simp only [Bool.and_eq_true] at p
    obtain ⟨v, rr, e, h1, h2⟩ := h
    subst e
    cases r with
    | cons r1 r2 => exact ⟨_, _, rfl, krep_NI I k v _ p.1 h1 r1, krepL_NI I ks rr _ p.2 h2 r2⟩
end
open Classical in
/-- the key that a value is -/
noncomputable def keyOf (h : Heap) (v : Value) : NestedKey := if q : ∃ k, NestedIs h k v then Classical.choose q else .none
theorem keyOf_eq {h : Heap} {k : NestedKey} {v : Value} (r : NestedIs h k v) : keyOf h v = k := by
  unfold keyOf
  have q : ∃ k, NestedIs h k v := ⟨k, r⟩
  rw [dif_pos q]
  exact NestedIs.inj _ _ _ (Classical.choose_spec q) r
/-- of a list of keys and their values: rearranged values stand for the rearranged keys -/
theorem perm_keys (I : Inv X pins σ H s) {M : MW} : ∀ {ks : List NestedKey} {vs : List V} {its : List Value}, (∀ k ∈ ks, kPure k = true ∧ ∃ r, k = .tup r) → RepL M W H (ks.map kd) vs → Vals vs its →
    its.map (keyOf s.heap) = ks ∧ (∀ u ∈ its, NI s.heap (keyOf s.heap u) u ∧ keyOf s.heap u ∈ ks ∧ ∃ a, u = Value.ref a ∧ KRep W H (keyOf s.heap u) (.ref a))
  | [], vs, its, _, h, r => by
    rw [show vs = [] from h] at r
    cases r
    exact ⟨rfl, fun _ h => nomatch h⟩
  | k :: ks, vs, its, hp, h, r => by
    obtain ⟨v, rr, e, h1, h2⟩ := h
    subst e
    cases r with
    | @cons _ u _ us r1 r2 =>
      obtain ⟨g1, g2⟩ := perm_keys I (ks := ks) (fun x hx => hp x (List.mem_cons_of_mem _ hx)) h2 r2
      have kr := (krep_kd (M := M) _ _).mpr h1
      obtain ⟨p, rk, ek⟩ := hp k List.mem_cons_self
      have ni := krep_NI I k v u p kr r1
      have e1 : keyOf s.heap u = k := keyOf_eq (NI.is _ _ ni)
      refine ⟨by rw [List.map_cons, e1, g1], fun z hz => ?_⟩
      rcases List.mem_cons.mp hz with e | e
      · subst e
        rw [e1]
        refine ⟨ni, List.mem_cons_self, ?_⟩
        subst ek
        obtain ⟨a, ws, ev, _⟩ := id kr
        subst ev
        exact ⟨a, r1, kr⟩
      · obtain ⟨a1, a2, a3⟩ := g2 z e
        exact ⟨a1, List.mem_cons_of_mem _ a2, a3⟩
theorem repL_of_keys {M : MW} {kf : Value → NestedKey} : ∀ (out : List Value), (∀ u ∈ out, ∃ a, u = Value.ref a ∧ KRep W H (kf u) (.ref a)) → RepL M W H ((out.map kf).map kd) (out.map backV)
  | [], _ => rfl
  | u :: out, h => by
    obtain ⟨a, e, k⟩ := h u List.mem_cons_self
    refine ⟨backV u, out.map backV, rfl, ?_, repL_of_keys out fun z hz => h z (List.mem_cons_of_mem _ hz)⟩
    rw [e] at k ⊢
    exact (krep_kd (M := M) _ _).mp k
/-- sorted: the keys in order -/
def Sorted (ks' ks : List NestedKey) : Prop := ks'.Perm ks ∧ ks'.Pairwise fun a b => kLt b a = false
def rSortedN (M : MW) : List V → Hp → VK → Prop := fun vs H Q => ∃ W ks x, vs = [x] ∧ Rep M W H (.lst (ks.map kd)) x ∧ SortK ks ∧ (∀ k ∈ ks, kPure k = true) ∧ ∀ ks' us p, Sorted ks' ks → H p = none → RepL M W H (ks'.map kd) us → Q (.ref p) (upd H p (.lst us))
theorem srtd_keys {kf : Value → NestedKey} {out its : List Value} {ks : List NestedKey} (e : its.map kf = ks) (h1 : SrtO.Srtd (fun v u => kLt (kf v) (kf u)) out) (h2 : out.Perm its) : Sorted (out.map kf) ks := ⟨by rw [← e]; exact h2.map kf, List.pairwise_map.mpr h1⟩
theorem cr_sortedN (hu : X.A.units + 64 < cLine) : CallR X (.builtin "sorted") (rSortedN (pw X)) := by
  intro pins s σ H vs us Q I r h
  obtain ⟨W, ks, x, rfl, rd, S, hp, q⟩ := h
  obtain ⟨a, xs, ex, n, h1, h2⟩ := rd
  subst ex
  obtain ⟨u, rfl, ru⟩ := vals1 r
  obtain rfl : u = Value.ref a := ru
  obtain ⟨its, rv, hl, hz⟩ := I.list (SqL.of h1)
  obtain ⟨e1, e2⟩ := perm_keys I (fun k hk => ⟨hp k hk, let ⟨i, r, e⟩ := S.hd k hk; ⟨_, e⟩⟩) h2 rv
  refine SrtO.sorted_ord (swo_keys (keyOf s.heap)) hl.isList (by rw [← rv.length]; exact hz) (fun h2' h₁ a' ha kk => ?_) fun out hs hb => ?_
  · refine keys_sortable (s := { s with heap := h₁ }) S (show X.A.units + 1 + 1 + 20 < cLine by omega) (by omega) (fun v hm => ⟨NI.at (fun b o e _ => (kk b o e).2) _ _ (e2 v hm).1, (e2 v hm).2.1⟩) fun o e => ?_
    have e' : some o = some (seqObj "list" its.toArray 0) := e.symm.trans ha
    cases e'
    intro c
    exact absurd (Value.type.inj c) (by decide)
  · obtain ⟨ep, he⟩ := PyProof.Rows.sortedAll_at s.heap its out.toArray
    have hpm : out.Perm its := hb.perm
    have hall : ∀ u ∈ out, ∃ a, u = Value.ref a ∧ KRep W H (keyOf s.heap u) (.ref a) := fun u hm => (e2 u (hpm.mem_iff.mp hm)).2.2
    have hlen : (out.map backV).length ≤ sizeLine := by rw [List.length_map, hpm.length_eq, ← rv.length]; exact hz
    have hvals : Vals (out.map backV) out := vals_back fun u hm => let ⟨a, e, _⟩ := hall u hm; ⟨a, e⟩
    exact ⟨.ref (s.heap.objs.size + 1), upd H (s.heap.objs.size + 1) (.lst (out.map backV)), I.laid (t' := s.toks) (fun _ _ => PyProof.Rows.sortedAll_old) (Nat.le_succ _) ⟨hlen, out, ep, hvals, he⟩, rfl, q _ _ _ (srtd_keys e1 hs hpm) (I.hok.fresh (Nat.le_succ _)) (repL_of_keys out hall)⟩
end
section
variable {X : Cx} {r : List (Option D)} {e : Expr} {pos p : Pos}
/-- sorted(xs) -/
theorem ef_sorted {ks : List NestedKey} (hu : X.A.units + 64 < cLine) (hm : X.mg "sorted" = none) (ha : PA X [e] (tAD (pw X) r [.lst (ks.map kd)])) (S : SortK ks) (hp : ∀ k ∈ ks, kPure k = true) (hg : Gl X "sorted" := by rfl) (he : starEach [e] X.env = (false, eval e X.env) :: starEach [] X.env := by rfl) (hpl : (backTo pos (starEach [] X.env)).any (·.1) = false := by rfl) :
    PE X (.Call (.Name "sorted" p) [e] [] pos) (tF (pw X) r (fun ds => ∃ ks', ds = ks'.map kd ∧ Sorted ks' ks)) :=
  (pe_callB (cr_sortedN hu) hg hm boot_sorted ha (by decide) (by decide) he hpl).wk fun σ H Q ⟨W, hs, ok, q⟩ => ⟨W, hs, ok, fun vs H1 ds kd' e1 rs => by
    subst kd'
    obtain ⟨v, e, rv⟩ := rs.one_of
    refine ⟨W, ks, v, e, rv, S, hp, fun ks' us p hss hp' ru => q p us _ _ ⟨ks', rfl, hss⟩ (e1.free ok hp') (e1.trans (.new hp')) upd_same ?_⟩
    exact RepL.car ((Car.new hp').trans (Car.upd (W := W.add p) (.inr rfl))) _ _ ru⟩
/-- sorted(d, reverse=True) of a dict -/
def rSortedDR (M : MW) : List V → List V → Hp → VK → Prop := fun vs zs H Q => ∃ W kvs x, vs = [x] ∧ zs = [.bl true] ∧ Rep M W H (.dct kvs) x ∧ SortK (kvs.map (·.1)) ∧ (∀ k ∈ kvs.map (·.1), kPure k = true) ∧ ∀ (ks' : List NestedKey) us p, Sorted ks'.reverse (kvs.map (·.1)) → H p = none → RepL M W H (ks'.map kd) us → Q (.ref p) (upd H p (.lst us))
theorem cr_sortedDR (hc : X.calm = true) (hu : X.A.units + 64 < cLine) : CallRK X (.builtin "sorted") [Str.ofString "reverse"] (rSortedDR (pw X)) := by
  intro pins s σ H vs zs us ws Q I r rz h
  obtain ⟨W, kvs, x, rfl, rfl, rd, S, hp, q⟩ := h
  obtain ⟨a, o, es, rfl, n, h1, h0, he, rk⟩ := rd
  obtain ⟨u, rfl, rx⟩ := vals1 r
  obtain rfl : u = .ref a := rx
  obtain ⟨w1, rfl, ew⟩ := vals1 rz
  obtain rfl : w1 = Value.bool true := ew
  obtain ⟨hg, _⟩ := (show ObjOk X.prog X.w H s.heap a (dO a o) from I.hok a _ h1)
  obtain ⟨raw, ep, hr, hd, hl, hi⟩ := he.raw hg
  have hz := he.2.2.2.1
  refine call_function_entry_kw kind_sorted plain_sorted entry_sorted (PyProof.Rows.args_sorted_rev _ _) ?_
  unfold Builtin.«sorted»
  refine wpAny_bind (m := checkCount "sorted" 1 1 _) (wpAny_pure ?_)
  refine wpAny_bind (PySem.W.kdu_collect (A := X.A.in1) (KdlSrc.rawDict (d := a) (es := raw) (ep := ep) h0) (I.ok.hd hc) hr (by rw [hl]; exact hz) fun h' tk acc hk hacc => ?_)
  have hal : acc.toList.length = es.length := by rw [Array.length_toList, hacc.1, hl]
  have I1 : Inv X pins σ H { s with heap := h', toks := tk } := I.kept hk
  have hvals : Vals (es.map fun y => V.ref y.2.1) acc.toList := by
    refine vals_of_at (by rw [List.length_map, hal]) fun j x w g1 g2 => ?_
    obtain ⟨hj, hw⟩ := hacc.2 j w (by rw [← Array.getElem?_toList]; exact g2)
    obtain ⟨y, hy, hk', _⟩ := hi j hj
    rw [List.getElem?_map, hy] at g1
    have g1 : V.ref y.2.1 = x := by simpa using g1
    subst g1
    rw [hw, hk']
    rfl
  have rkeys : RepL (pw X) W H ((kvs.map (·.1)).map kd) (es.map fun y => V.ref y.2.1) := by
    have := repKV_keys rk
    rw [List.map_map]
    exact this
  obtain ⟨e1, e2⟩ := perm_keys I1 (fun k hk => ⟨hp k hk, let ⟨i, r, e⟩ := S.hd k hk; ⟨_, e⟩⟩) rkeys hvals
  generalize hits : acc.toList = its at hvals e1 e2 hal
  refine wpAny_bind (wpAny_newList ?_ (by rw [hal]; exact hz))
  have hoL : (h'.push (seqObj "list" its.toArray 0)).get? h'.objs.size = some (seqObj "list" its.toArray 0) := Heap.get?_push_size _ rfl
  show wpAny _ _ _ _ _ { s with heap := h'.push (seqObj "list" its.toArray 0), toks := tk }
  refine wpAny_bind (wpAny_holding (wpAny_call_entry_kw slot_list_sort ⟨_, hoL, rfl⟩ entry_list_sort ?_ (PyProof.Rows.args_list_sort_rev _ _)))
  refine SrtR.list_sort_ordR (b := true) (swo_keys (keyOf h')) hoL (by rw [hal]; exact hz) (fun h2' => ?_) fun out hs hb => ⟨_, rfl, ?_⟩
  · refine keys_sortable (s := { s with heap := h'.push (seqObj "list" its.toArray 0), toks := tk }) S (show X.A.units + 1 + 1 + 20 < cLine by omega) (by omega) (fun v hm => ⟨NI.at (fun b o e _ => Heap.get?_push_of_some _ e) _ _ (e2 v hm).1, (e2 v hm).2.1⟩) fun o e => ?_
    have e' : some o = some (seqObj "list" its.toArray 0) := e.symm.trans hoL
    cases e'
    intro c
    exact absurd (Value.type.inj c) (by decide)
  · obtain ⟨ep', he'⟩ := PyProof.Rows.sortedHeap_at (vs := its) (out := out.reverse.toArray) hoL
    have eo : (if true = true then out.toArray.reverse else out.toArray) = out.reverse.toArray := by simp
    rw [eo]
    have hpm : out.Perm its := by
      have := hb.perm
      rw [if_pos rfl] at this
      exact this.trans (List.reverse_perm its)
    have hall : ∀ u ∈ out.reverse, ∃ a, u = Value.ref a ∧ KRep W H (keyOf h' u) (.ref a) := fun u hm => (e2 u (hpm.mem_iff.mp (List.mem_reverse.mp hm))).2.2
    have hlen : (out.reverse.map backV).length ≤ sizeLine := by rw [List.length_map, List.length_reverse, hpm.length_eq, hal]; exact hz
    have hvals' : Vals (out.reverse.map backV) out.reverse := vals_back fun u hm => let ⟨a, e, _⟩ := hall u hm; ⟨a, e⟩
    refine wpAny_pure ⟨_, rfl, .ref h'.objs.size, upd H h'.objs.size (.lst (out.reverse.map backV)), I1.laid (t' := tk) (fun b u e => ?_) (Nat.le_refl _)
      (show ObjOk X.prog X.w _ _ _ (.lst (out.reverse.map backV)) from ⟨hlen, out.reverse, ep', hvals', he'⟩), rfl, q (out.reverse.map (keyOf h')) _ _ ?_ (I1.hok.fresh (Nat.le_refl _)) (repL_of_keys out.reverse hall)⟩
    · have hb' : b < h'.objs.size := Heap.lt_size e
      rw [PyProof.Rows.sortedHeap_old (Nat.ne_of_lt hb') (by rw [size_push']; exact Nat.lt_succ_of_lt hb')]
      exact Heap.get?_push_of_some _ e
    · rw [← List.map_reverse, List.reverse_reverse]
      exact srtd_keys e1 hs hpm
/-- sorted(d, reverse=True) -/
theorem ei_sortedDR {tg : Expr} {kvs : List (NestedKey × D)} {kws : List Keyword} (hc : X.calm = true) (hu : X.A.units + 64 < cLine) (hm : X.mg "sorted" = none) (ha : PA X [e] (tAD (pw X) r [.dct kvs])) (hk : PK X kws (tAD (pw X) r [.bl true])) (S : SortK (kvs.map (·.1))) (hp : ∀ k ∈ kvs.map (·.1), kPure k = true) (hg : Gl X "sorted" := by rfl)
    (he : backTo pos (starEach [e] X.env) = (false, eval e X.env) :: backTo pos (starEach [] X.env) := by rfl) (hpl : (backTo pos (starEach [e] X.env)).any (·.1) = false := by rfl)
    (hall : (backToKw pos (keywordEach kws X.env)).all (·.1.isSome) = true := by rfl) (hnone : (backToKw pos (keywordEach kws X.env)).any (·.1.isNone) = false := by rfl) (hks : (backToKw pos (keywordEach kws X.env)).filterMap (·.1) = [Str.ofString "reverse"] := by rfl) :
    PI X tg (.Call (.Name "sorted" p) [e] kws pos) (tIN (pw X) r (fun ds => ∃ ks' : List NestedKey, ds = ks'.map kd ∧ Sorted ks'.reverse (kvs.map (·.1)))) := by
  refine ei_listN (K := fun d => ∃ ks' : List NestedKey, d = .lst (ks'.map kd) ∧ Sorted ks'.reverse (kvs.map (·.1))) ?_ fun d ⟨ks', e, h⟩ => ⟨_, e, ks', rfl, h⟩
  refine (pe_callBK (cr_sortedDR hc hu) hg hm boot_sorted ha hk (by decide) (by decide) he hpl hall hnone hks).wk fun σ H Q ⟨W, hs, ok, q⟩ => ⟨W, hs, ok, fun vs H1 ds kd' e1 rs => ⟨W, hs.ext ok e1, ok.ext e1, fun zs H2 dz kz e2 rz => ?_⟩⟩
  subst kd'; subst kz
  obtain ⟨v, e, rv⟩ := rs.one_of
  obtain ⟨z, ez, rz⟩ := rz.one_of
  rw [show z = V.bl true from rz] at ez
  have ok2 := (ok.ext e1).ext e2
  refine ⟨W, kvs, v, e, ez, rv.ext (ok.ext e1) e2, S, hp, fun ks' us p hss hp' ru => q _ _ _ ⟨ks', rfl, hss⟩ ((e1.trans e2).trans (.new hp')) ⟨p, us, rfl, ok2.nS hp', upd_same, ru.ext ok2 (.new hp')⟩⟩
end
end PD

set_option Elab.async false
set_option linter.all false
set_option maxRecDepth 100000
set_option maxHeartbeats 2000000
/-! Pd16: enumerate(x, start=k), zip of lists and tuples, range(a, b, -1), xs != []. -/
namespace PD
open PySem L2 PySem.Spec PyProof.Rows
section
variable {M : Model} {A : Around} {E : Value → Shared → Prop} {s : Shared} {env : Env}
theorem callWith_typeK {pos : Pos} {T : String} {e : Expr} {rest : List Expr} {kws : List Keyword} {Q : Value → Shared → Prop}
    (h : wpAny M A (spliced (backTo pos (starEach (e :: rest) env))) (fun vs s₁ => wpAny M A (evalAll ((backToKw pos (keywordEach kws env)).map (·.2)))
      (fun kvs s₂ => wpAny M A (call (.type T) vs (((backToKw pos (keywordEach kws env)).filterMap (·.1)).zip kvs)) Q E s₂) E s₁) E s)
    (he : backTo pos (starEach (e :: rest) env) = (false, eval e env) :: backTo pos (starEach rest env) := by rfl)
    (hplain : (backTo pos (starEach (e :: rest) env)).any (·.1) = false := by rfl)
    (hall : (backToKw pos (keywordEach kws env)).all (·.1.isSome) = true := by rfl)
    (hkw : (backToKw pos (keywordEach kws env)).any (·.1.isNone) = false := by rfl) :
    wpAny M A (callWith pos (.type T) [] (backTo pos (starEach (e :: rest) env)) (backToKw pos (keywordEach kws env))) Q E s := by
  unfold callWith
  have h2 : wpAny M A (evalArgs (.type T) true (backTo pos (starEach (e :: rest) env)) (backToKw pos (keywordEach kws env))) (fun a s₁ => wpAny M A (call (.type T) ([] ++ a.pos) a.kw) Q E s₁) E s := by
    rw [he] at h ⊢
    exact evalArgs_kwB hall h
  refine wpAny_bind (wpAny_holding (wpAny_mono h2 (fun a s₁ h₁ => wpAny_bind (wpAny_standAt ?_)) fun _ _ x => x))
  simp only [hplain, hkw, Bool.or_false]
  refine wpAny_bind (wpAny_pure ?_)
  exact wpAny_bind (wpAny_mono h₁ (fun r s₂ hr => wpAny_bind (wpAny_holding (wpAny_point (wpAny_pure hr)))) fun _ _ x => x)
end
section
variable {X : Cx} {M : MW} {r : List (Option D)} {K : D → Prop} {e e2 : Expr} {p pos tpos : Pos} {elts : List Expr} {kk : Nat} {ds : List D} {kws : List Keyword}
/-- enumerate(x, start=k) -/
theorem ei_enK {b : Bool} {d : D} {k : Int} (hm : X.mg "enumerate" = none) (h : PA X [e] (tAD M r [d])) (hk : PK X kws (tAD M r [.int k])) (hd : IsSq ds b d) (hk2 : -(2 ^ 63) ≤ k ∧ k < 2 ^ 63) (hg : Gl X "enumerate" := by rfl)
    (he : backTo pos (starEach [e] X.env) = (false, eval e X.env) :: backTo pos (starEach [] X.env) := by rfl) (hpl : (backTo pos (starEach [e] X.env)).any (·.1) = false := by rfl)
    (hall : (backToKw pos (keywordEach kws X.env)).all (·.1.isSome) = true := by rfl) (hnone : (backToKw pos (keywordEach kws X.env)).any (·.1.isNone) = false := by rfl) (hks : (backToKw pos (keywordEach kws X.env)).filterMap (·.1) = [Str.ofString "start"] := by rfl) :
    PI X (.Tuple elts kk tpos) (.Call (.Name "enumerate" p) [e] kws pos) (tI M r (enumD k ds)) := by
  refine ⟨fun pins s σ H R I ⟨W, hs, ok, q⟩ => ?_⟩
  refine wpAny_Call_Name_kw (ld_blt I hg hm boot_enumerate ?_)
  refine callWith_typeK (thn (h.run pos pins s σ H (fun vs H1 => Ext W H H1 ∧ RepL M W H1 [d] vs) I ⟨W, hs, ok, fun vs H1 ds kd e1 rs => ⟨e1, by rw [← kd]; exact rs⟩⟩) fun us s1 ⟨vs, H1, I1, r1, e1, rs⟩ =>
    thn (hk.run pos pins s1 σ H1 (fun vs H2 => Ext W H1 H2 ∧ RepL M W H2 [.int k] vs) I1 ⟨W, hs.ext ok e1, ok.ext e1, fun vs H1 ds kd e1 rs => ⟨e1, by rw [← kd]; exact rs⟩⟩) fun ws s2 ⟨zs, H2, I2, r2, e2, rz⟩ => ?_) he hpl hall hnone
  rw [hks]
  obtain ⟨v, ev, rv⟩ := rs.one_of
  obtain ⟨z, ez, rz1⟩ := rz.one_of
  subst ev; subst ez
  obtain ⟨u, rfl, ru⟩ := vals1 r1
  obtain ⟨w1, rfl, rw1⟩ := vals1 r2
  rw [show z = V.int k from rz1] at rw1
  obtain ⟨t, rfl⟩ := rw1
  obtain ⟨a, vs, e', n, h1, h2⟩ := hd.rep (rv.ext (ok.ext e1) e2)
  subst e'
  obtain rfl : u = Value.ref a := ru
  obtain ⟨its, rv', p', hlt⟩ := inv_X I2 (sqX_of h1)
  exact enum_begins_start (begins_X a its.toArray b) p' hk2.1 hk2.2 fun h' he ho hsz hkp => enum_fin (its := its) (xs := vs) rfl I2 hlt he ho hkp (q _ H2 _ rfl (e1.trans e2) (itd_en n h1 h2))
/-- range(i, j, -1) -/
theorem ei_range3 {a b c tg : Expr} {i j : Int} (hm : X.mg "range" = none) (h : PA X [a, b, c] (tAD M r [.int i, .int j, .int (-1)])) (bb : -(2 ^ 62) ≤ i ∧ i < 2 ^ 62 ∧ -(2 ^ 62) ≤ j ∧ j < 2 ^ 62) (hg : Gl X "range" := by rfl)
    (hs : starEach [a, b, c] X.env = (false, eval a X.env) :: starEach [b, c] X.env := by rfl) (hpl : (backTo pos (starEach [b, c] X.env)).any (·.1) = false := by rfl) :
    PI X tg (.Call (.Name "range" p) [a, b, c] [] pos) (tI M r ((List.range (i - j).toNat).map fun n => D.int (i + (n : Nat) * (-1)))) := (pi_range3 hg hm h hs hpl).wk fun σ H R ⟨W, hsl, ok, q⟩ => ⟨W, hsl, ok, fun us H1 dd kd e1 rv => by
  subst kd
  obtain ⟨v, r1, e, rv, v2, r2, e2, rv2, v3, r3, e3, rv3, e4⟩ := rv
  rw [e2, e3, show r3 = [] from e4, show v = V.int i from rv, show v2 = V.int j from rv2, show v3 = V.int (-1) from rv3] at e
  exact ⟨i, j, -1, _, e, RgC.neg bb.1 bb.2.1 bb.2.2.1 bb.2.2.2, q _ H1 _ rfl e1 itd_rangeC⟩⟩
/-! xs != [] -/
def rNeL0 (M : MW) : R2 := fun x y H Q => ∃ W ds, Rep M W H (.lst ds) x ∧ Rep M W H (.lst []) y ∧ Q (.bl (!ds.isEmpty)) H
theorem op_neL0 (hu : X.A.units + 64 < cLine) : OpR X (compareOp .NotEq) (rNeL0 (pw X)) := by
  intro pins s σ H x y v u Q I rx ry h
  obtain ⟨W, ds, ⟨a, xs, ex, n, h1, h2⟩, ⟨b, ys, ey, n', h1', h2'⟩, q⟩ := h
  subst ex; subst ey
  obtain rfl : v = Value.ref a := rx
  obtain rfl : u = Value.ref b := ry
  rw [show ys = [] from h2'] at h1'
  obtain ⟨its, rv, pl, hz⟩ := I.list (SqL.of h1)
  obtain ⟨its2, rv2, pl2, hz2⟩ := I.list (SqL.of h1')
  cases rv2
  have hl := rv.length
  have hl2 := h2.length
  cases ds with
  | nil =>
    have : its = [] := List.length_eq_zero_iff.mp (by rw [← hl, hl2]; rfl)
    subst this
    refine PySem.SeqAt.RcNeAt.lists (e := fun _ => true) pl.isList pl2.isList rfl (by omega) (fun j h1 h2 => absurd h1 (Nat.not_lt_zero _)) X.prog X.w _ _ ?_
    exact ⟨.bl false, H, I, rfl, q⟩
  | cons d ds =>
    refine PySem.SeqAt.RcNeAt.lists_lengths pl.isList pl2.isList (by
      rw [List.size_toArray, ← hl, hl2]
      rfl) (by omega) X.prog X.w _ _ ?_
    exact ⟨.bl true, H, I, rfl, q⟩
theorem td_neL0 {a b : Expr} {pos : Pos} (hu : X.A.units + 64 < cLine) (ha : PE X a (tD (pw X) r (.lst ds))) (hb : PE X b (tD (pw X) r (.lst []))) : PT X (.Compare a [.NotEq] [b] pos) (tT (pw X) r (!ds.isEmpty)) :=
  td_cmp (op_neL0 hu) ha hb (fun W H x y Q ok rx ry q => ⟨W, ds, rx, ry, q _ H _ rfl (.refl _ _) rfl⟩) (nomark _)
theorem ed_neL0 {a b : Expr} {pos : Pos} (hu : X.A.units + 64 < cLine) (ha : PE X a (tD (pw X) r (.lst ds))) (hb : PE X b (tD (pw X) r (.lst []))) : PE X (.Compare a [.NotEq] [b] pos) (tD (pw X) r (.bl (!ds.isEmpty))) :=
  ed_cmp (op_neL0 hu) ha hb (fun W H x y Q ok rx ry q => ⟨W, ds, rx, ry, q _ H _ rfl (.refl _ _) rfl⟩) (nomark _)
end
/-! ### zip of two, each a list or a tuple -/
def ItZ (K : PySem.W.Frag) (a b : Addr) (c d : Bool) : It :=
  ⟨fun i H => ∃ (xs ys : List V) (x y : V), SqX K H a xs c ∧ SqX K H b ys d ∧ xs[i]? = some x ∧ ys[i]? = some y,
   fun i H v H' => ∃ T x y, v = .ref T ∧ H T = none ∧ H' = upd H T (.tup [x, y]) ∧ (∀ xs, SqX K H a xs c → xs[i]? = some x) ∧ ∀ ys, SqX K H b ys d → ys[i]? = some y,
   fun i H => ∃ xs ys : List V, SqX K H a xs c ∧ SqX K H b ys d ∧ min xs.length ys.length = i⟩
structure Far (z TI TO i1 i2 a b : Addr) : Prop where
  sep : ZipSep2 z TI TO i1 i2 [i1, a] [i2, b]
  n1 : a ≠ i1
  n2 : b ≠ i2
theorem turn_zipX {P : Program} {w : World} {K : PySem.W.Frag} {elts : List Expr} {kk : Nat} {tpos : Pos} {a b z TI TO i1 i2 : Addr} (c d : Bool) (F : Far z TI TO i1 i2 a b) :
    Turn P w K (.Tuple elts kk tpos) (ItZ K a b c d) [z, TI, TO, i1, i2] z (fun i h => IsZip h z TI TO .none ∧ IsTupOf2 h TI (.ref i1) (.ref i2) ∧ (∃ a1 a2, IsTupOf2 h TO a1 a2) ∧ ItX h i1 a i c ∧ ItX h i2 b i d) where
  mem := by simp
  obj := fun i h st x hx => by
    obtain ⟨hz, hTI, ⟨a1, a2, hTO⟩, h1, h2⟩ := st
    have e' : x = z ∨ x = TI ∨ x = TO ∨ x = i1 ∨ x = i2 := by simpa using hx
    rcases e' with q | q | q | q | q
    · rw [q]; exact ⟨_, hz, fun v q => nomatch q⟩
    · rw [q]; exact ⟨_, hTI, fun v q => nomatch q⟩
    · rw [q]; exact ⟨_, hTO, fun v q => nomatch q⟩
    · rw [q]; exact h1.obj
    · rw [q]; exact h2.obj
  keep := fun i h h' st k => by
    obtain ⟨hz, hTI, ⟨x, y, hTO⟩, h1, h2⟩ := st
    exact ⟨k z (by simp) _ hz, k TI (by simp) _ hTI, ⟨x, y, k TO (by simp) _ hTO⟩, h1.at fun o q => k i1 (by simp) o q, h2.at fun o q => k i2 (by simp) o q⟩
  item := by
    intro X hP hw hK hc i pins s σ H E I hf st hg
    subst hP hw hK
    obtain ⟨hz, hTI, hTO, h1, h2⟩ := st
    obtain ⟨xs, ys, x, y, hq, hq2, hx, hy⟩ := hg
    obtain ⟨its, rv, p, _⟩ := inv_X I hq
    obtain ⟨its2, rv2, p2, _⟩ := inv_X I hq2
    obtain ⟨u, hu, ru⟩ := rv.get hx
    obtain ⟨u2, hu2, ru2⟩ := rv2.get hy
    have hi : i < min its.toArray.size its2.toArray.size := by
      rw [List.size_toArray, List.size_toArray]
      have b1 := (List.getElem?_eq_some_iff.mp hu).1
      have b2 := (List.getElem?_eq_some_iff.mp hu2).1
      omega
    have hd : (X.A.in1).handled = none := I.ok.hd hc
    have D1 := draws_X (prog := X.prog) (w := X.w) (A := X.A.in1) hd i1 a F.n1 its.toArray c
    have D2 := draws_X (prog := X.prog) (w := X.w) (A := X.A.in1) hd i2 b F.n2 its2.toArray d
    have Wk := WalksT.zipD2 (A := X.A) F.sep D1 D2
    obtain ⟨_, ho1, _⟩ := h1.obj
    obtain ⟨_, ho2, _⟩ := h2.obj
    obtain ⟨a1, a2, hTO'⟩ := id hTO
    have lz : ∀ q, q ∈ [z, TI, TO, i1, i2] → q < s.heap.objs.size := fun q hq => by
      have e' : q = z ∨ q = TI ∨ q = TO ∨ q = i1 ∨ q = i2 := by simpa using hq
      rcases e' with e | e | e | e | e
      · rw [e]; exact Heap.lt_size hz
      · rw [e]; exact Heap.lt_size hTI
      · rw [e]; exact Heap.lt_size hTO'
      · rw [e]; exact Heap.lt_size ho1
      · rw [e]; exact Heap.lt_size ho2
    refine Wk.item i s _ E hi ⟨hz, hTI, hTO, ⟨h1, p⟩, ⟨h2, p2⟩⟩ fun T vals h' tk hP hnew hT hm hk => ?_
    obtain ⟨y1, y2, hy1, hy2, ev⟩ := hP
    rw [show its.toArray[i]? = its[i]? by simp, hu] at hy1
    rw [show its2.toArray[i]? = its2[i]? by simp, hu2] at hy2
    cases hy1; cases hy2
    have nT : ∀ q, q ∈ [z, TI, TO, i1, i2] → T ≠ q := fun q hq e => absurd (Nat.lt_of_lt_of_le (lz q hq) hnew) (by rw [e]; exact Nat.lt_irrefl _)
    refine ⟨_, rfl, Wk.go elts kk tpos i T { s with heap := h', toks := tk } _ E hm fun h'' st'' hk' => ?_⟩
    obtain ⟨z'', ti'', to'', ⟨j1, _⟩, ⟨j2, _⟩⟩ := st''
    have hT2 : h''.IsTuple T vals := hT.at fun o q => hk' T o (by
      have := nT z (by simp); have := nT TO (by simp); have := nT i1 (by simp); have := nT i2 (by simp)
      simp [*]) q
    have new : ObjOk X.prog X.w (upd H T (.tup [x, y])) h'' T (.tup [x, y]) := by
      rw [ev] at hT2
      exact ⟨by show 2 ≤ sizeLine; decide, [u, u2], .cons ru (.cons ru2 .nil), hT2⟩
    have I1 : Inv X pins σ (upd H T (.tup [x, y])) { s with heap := h'', toks := tk } :=
      I.turnedNew (ch := [z, TI, TO, i1, i2]) (fun c ob hb q => by
        have hb' : c ∉ [z, TO, i1, i2] := fun m => hb (by
          have e' : c = z ∨ c = TO ∨ c = i1 ∨ c = i2 := by simpa using m
          rcases e' with e | e | e | e <;> simp [e])
        exact hk' c ob hb' (hk c ob hb' q)) hf hnew new
    refine ⟨.ref T, _, I1, rfl, ⟨T, x, y, rfl, I.hok.fresh hnew, rfl, fun ws hw => by rw [inj_X I hw hq]; exact hx, fun ws hw => by rw [inj_X I hw hq2]; exact hy⟩, ⟨z'', ti'', to'', j1, j2⟩, fun c hb => ?_⟩
    rw [upd_ne (Ne.symm (nT c hb))]
    exact (hf c hb).1
  done := by
    intro X hP hw hK hc i pins s σ H E I hf st hg
    subst hP hw hK
    obtain ⟨hz, hTI, hTO, h1, h2⟩ := st
    obtain ⟨xs, ys, hq, hq2, hx⟩ := hg
    obtain ⟨its, rv, p, _⟩ := inv_X I hq
    obtain ⟨its2, rv2, p2, _⟩ := inv_X I hq2
    have hl := rv.length
    have hl2 := rv2.length
    have hd : (X.A.in1).handled = none := I.ok.hd hc
    have D1 := draws_X (prog := X.prog) (w := X.w) (A := X.A.in1) hd i1 a F.n1 its.toArray c
    have D2 := draws_X (prog := X.prog) (w := X.w) (A := X.A.in1) hd i2 b F.n2 its2.toArray d
    have Wk := WalksT.zipD2 (A := X.A) F.sep D1 D2
    have hi : min its.toArray.size its2.toArray.size = i := by rw [List.size_toArray, List.size_toArray]; omega
    refine Wk.done s _ E (by rw [hi]; exact ⟨hz, hTI, hTO, ⟨h1, p⟩, ⟨h2, p2⟩⟩) fun h' tk hk => ⟨rfl, I.turnedL (t' := tk) (ch := [z, TI, TO, i1, i2]) (fun c o hb q => hk c o (fun m => hb (by
      have e' : c = z ∨ c = TO ∨ c = i1 ∨ c = i2 := by simpa using m
      rcases e' with e | e | e | e <;> simp [e])) q) hf⟩
  self := fun A i s Q E st h => wpAny_pyIter_zip st.1 h
def zipD (ds es : List D) : List D := (ds.zip es).map fun p => .tup [p.1, p.2]
theorem zipD_get {ds es : List D} {i : Nat} {d e : D} (h1 : ds[i]? = some d) (h2 : es[i]? = some e) : (zipD ds es)[i]? = some (.tup [d, e]) := by
  unfold zipD
  rw [List.getElem?_map, show (ds.zip es)[i]? = some (d, e) from List.getElem?_zip_eq_some.mpr ⟨h1, h2⟩]
  rfl
theorem itd_zip {M : MW} {W : Wd} {H1 : Hp} {K : PySem.W.Frag} {a b : Addr} {c d : Bool} {vs us : List V} {ds es : List D} (n : ¬ W.S a) (n' : ¬ W.S b) (h : H1 a = some (if c then .tup vs else .lst vs)) (h' : H1 b = some (if d then .tup us else .lst us)) (r : RepL M W H1 ds vs) (r' : RepL M W H1 es us) :
    ItD M W H1 (ItZ K a b c d) (zipD ds es) where
  go := fun W' i H s hi => by
    obtain ⟨h1, _⟩ := s.car.keep a _ n h
    obtain ⟨h2, _⟩ := s.car.keep b _ n' h'
    have l1 := r.length
    have l2 := r'.length
    unfold zipD at hi
    rw [List.length_map, List.length_zip] at hi
    exact ⟨vs, us, vs[i]'(by omega), us[i]'(by omega), sqX_of h1, sqX_of h2, by simp [show i < vs.length by omega], by simp [show i < us.length by omega]⟩
  stop := fun W' H s => by
    obtain ⟨h1, _⟩ := s.car.keep a _ n h
    obtain ⟨h2, _⟩ := s.car.keep b _ n' h'
    refine ⟨vs, us, sqX_of h1, sqX_of h2, ?_⟩
    unfold zipD
    rw [List.length_map, List.length_zip, r.length, r'.length]
  yld := fun W' i H x H' s hi y => by
    obtain ⟨h1, _⟩ := s.car.keep a _ n h
    obtain ⟨h2, _⟩ := s.car.keep b _ n' h'
    obtain ⟨T, z1, z2, ev, hT, eH, y1, y2⟩ := y
    subst eH; subst ev
    obtain ⟨d1, g1, g2⟩ := (RepL.car s.car ds vs r).getV (y1 vs (sqX_of h1))
    obtain ⟨d2, k1, k2⟩ := (RepL.car s.car es us r').getV (y2 us (sqX_of h2))
    have sm : Same H (upd H T (.tup [z1, z2])) := fun c o e => by rw [upd_ne (ne_of_none e hT)]; exact e
    have nT : ¬ W'.S T := fun q => by
      obtain ⟨o, e⟩ := s.tr T q
      rw [hT] at e; cases e
    have cr : Car W' W' H (upd H T (.tup [z1, z2])) := ⟨fun c o n e => ⟨sm c o e, n⟩, fun _ t => t⟩
    exact ⟨sm, .tup [d1, d2], zipD_get g1 k1, T, _, rfl, nT, upd_same, _, _, rfl, Rep.car cr _ _ g2, _, [], rfl, Rep.car cr _ _ k2, rfl⟩
theorem ei_zip {X : Cx} {M : MW} {r : List (Option D)} {e e2 : Expr} {p pos tpos : Pos} {elts : List Expr} {kk : Nat} {ds es : List D} {c d : Bool} {d1 d2 : D} (hm : X.mg "zip" = none) (ha : PA X [e, e2] (tAD M r [d1, d2])) (h1 : IsSq ds c d1) (h2 : IsSq es d d2) (hg : Gl X "zip" := by rfl)
    (hs : starEach [e, e2] X.env = (false, eval e X.env) :: starEach [e2] X.env := by rfl) (hpl : (backTo pos (starEach [e2] X.env)).any (·.1) = false := by rfl) :
    PI X (.Tuple elts kk tpos) (.Call (.Name "zip" p) [e, e2] [] pos) (tI M r (zipD ds es)) := by
  refine ⟨fun pins s σ H R I ⟨W, hsl, ok, q⟩ => ?_⟩
  refine Call_ (ld_blt I hg hm PyProof.Rows.boot_zip (PyProof.Rows.callWith_type1 (thn (ha.run pos pins s σ H (fun vs H1 => Ext W H H1 ∧ RepL M W H1 [d1, d2] vs) I ⟨W, hsl, ok, fun vs H1 ds kd e1 rs => ⟨e1, by rw [← kd]; exact rs⟩⟩) fun us s1 ⟨vs, H1, I1, r1, e1, rs⟩ => ?_) hs hpl))
  obtain ⟨v, v2, ev, rv, rv2⟩ := rs.two_of
  subst ev
  obtain ⟨a, xs, e', n, g1, g2⟩ := h1.rep rv
  obtain ⟨b, ys, e'', n', k1, k2⟩ := h2.rep rv2
  subst e'; subst e''
  obtain ⟨u, u2, rfl, ru, ru2⟩ := vals2 r1
  obtain rfl : u = Value.ref a := ru
  obtain rfl : u2 = Value.ref b := ru2
  obtain ⟨its, w1, p1, hlt⟩ := inv_X I1 (sqX_of g1)
  obtain ⟨its2, w2, p2, hlt2⟩ := inv_X I1 (sqX_of k1)
  refine zip_begins2 (begins_X a its.toArray c) (begins_X b its2.toArray d) p1 p2 fun h' hz hTI hTO ho1 ho2 hsz hk => wpAny_pyIter_zip hz ?_
  have I2 : Inv X pins σ H1 { s1 with heap := h' } := I1.kept (t' := s1.toks) hk
  have F : Far (s1.heap.objs.size + 4) (s1.heap.objs.size + 2) (s1.heap.objs.size + 3) s1.heap.objs.size (s1.heap.objs.size + 1) a b :=
    ⟨zip_sep2 (fp1 := [a]) (fp2 := [b]) (fun x hx => by rw [List.mem_singleton.mp hx]; exact hlt) (fun x hx => by rw [List.mem_singleton.mp hx]; exact hlt2), Nat.ne_of_lt hlt, Nat.ne_of_lt (Nat.lt_succ_of_lt hlt2)⟩
  refine ⟨s1.heap.objs.size + 4, [s1.heap.objs.size + 4, s1.heap.objs.size + 2, s1.heap.objs.size + 3, s1.heap.objs.size, s1.heap.objs.size + 1], _, _, H1, rfl, I2, turn_zipX c d F, ⟨hz, hTI, ⟨_, _, hTO⟩, itX_of ho1, itX_of ho2⟩, fun x hx => ?_, q _ H1 _ rfl e1 (itd_zip n n' g1 k1 g2 k2)⟩
  have hle : s1.heap.objs.size ≤ x := by
    have e' : x = s1.heap.objs.size + 4 ∨ x = s1.heap.objs.size + 2 ∨ x = s1.heap.objs.size + 3 ∨ x = s1.heap.objs.size ∨ x = s1.heap.objs.size + 1 := by simpa using hx
    rcases e' with e | e | e | e | e
    · rw [e]; exact Nat.le_add_right _ _
    · rw [e]; exact Nat.le_add_right _ _
    · rw [e]; exact Nat.le_add_right _ _
    · rw [e]; exact Nat.le_refl _
    · rw [e]; exact Nat.le_add_right _ _
  exact I1.fpOk hle (I1.hok.fresh hle)
end PD

set_option Elab.async false
set_option linter.all false
set_option maxRecDepth 100000
set_option maxHeartbeats 2000000
/-! Pd17: dicts of ints by ints. -/
namespace PD
open PySem L2 PySem.Spec PyProof.Rows
def valI (kvs : List (Int × Int)) (k : Int) : Option Int := (kvs.find? fun p => decide (p.1 = k)).map (·.2)
def putI (kvs : List (Int × Int)) (k v : Int) : List (Int × Int) := if kvs.any (fun p => decide (p.1 = k)) then kvs.map fun p => if p.1 = k then (p.1, v) else p else kvs ++ [(k, v)]
abbrev KVi (kvs : List (Int × Int)) (vs : List (Int × Value)) : Prop := Paired (fun (p : Int × Int) (q : Int × Value) => p.1 = q.1 ∧ RelV (.int p.2) q.2) kvs vs
theorem KVi.val : ∀ {kvs : List (Int × Int)} {vs : List (Int × Value)} (k : Int), KVi kvs vs → (valI kvs k = none ∧ valueAt vs k = none) ∨ ∃ v u, valI kvs k = some v ∧ valueAt vs k = some u ∧ RelV (.int v) u
  | _, _, k, .nil => .inl ⟨rfl, rfl⟩
  | _, _, k, @Paired.cons _ _ _ p q l m h t => by
    unfold valI valueAt
    rw [List.find?_cons, List.find?_cons]
    by_cases e : p.1 = k
    · have e' : q.1 = k := h.1.symm.trans e
      rw [decide_eq_true e, decide_eq_true e']
      exact .inr ⟨p.2, q.2, rfl, rfl, h.2⟩
    · have e' : ¬ q.1 = k := fun z => e (h.1.trans z)
      rw [decide_eq_false e, decide_eq_false e']
      exact KVi.val k t
theorem KVi.any : ∀ {kvs : List (Int × Int)} {vs : List (Int × Value)} (k : Int), KVi kvs vs → (kvs.any fun p => decide (p.1 = k)) = vs.any fun p => decide (p.1 = k)
  | _, _, k, .nil => rfl
  | _, _, k, @Paired.cons _ _ _ p q l m h t => by
    rw [List.any_cons, List.any_cons, KVi.any k t, h.1]
theorem KVi.repl (k : Int) {v : Int} {u : Value} (hv : RelV (.int v) u) : ∀ {kvs : List (Int × Int)} {vs : List (Int × Value)}, KVi kvs vs → KVi (kvs.map fun p => if p.1 = k then (p.1, v) else p) (vs.map fun p => if p.1 = k then (p.1, u) else p)
  | _, _, .nil => .nil
  | _, _, @Paired.cons _ _ _ p q l m h t => by
    rw [List.map_cons, List.map_cons]
    refine .cons ?_ (KVi.repl k hv t)
    by_cases e : p.1 = k
    · rw [if_pos e, if_pos (h.1.symm.trans e)]; exact ⟨h.1, hv⟩
    · rw [if_neg e, if_neg (fun z => e (h.1.trans z))]; exact h
theorem KVi.snoc {k v : Int} {u : Value} (hv : RelV (.int v) u) : ∀ {kvs : List (Int × Int)} {vs : List (Int × Value)}, KVi kvs vs → KVi (kvs ++ [(k, v)]) (vs ++ [(k, u)])
  | _, _, .nil => .cons ⟨rfl, hv⟩ .nil
  | _, _, .cons h t => .cons h (KVi.snoc hv t)
theorem KVi.put {kvs : List (Int × Int)} {vs : List (Int × Value)} (r : KVi kvs vs) (k : Int) {v : Int} {u : Value} (hv : RelV (.int v) u) : KVi (putI kvs k v) (stored vs k u) := by
  unfold putI stored
  rw [r.any]
  split
  · exact r.repl k hv
  · exact r.snoc hv
def mergeI (kvs more : List (Int × Int)) : List (Int × Int) := more.foldl (fun acc p => putI acc p.1 p.2) kvs
theorem KVi.merge : ∀ {more : List (Int × Int)} {rs : List (Int × Value)} {kvs : List (Int × Int)} {vs : List (Int × Value)}, KVi more rs → KVi kvs vs → KVi (mergeI kvs more) (merged vs rs)
  | _, _, kvs, vs, .nil, q => q
  | _, _, kvs, vs, @Paired.cons _ _ _ p q0 l m h t, q => by
    have e := q.put p.1 h.2
    have e2 : KVi (putI kvs p.1 p.2) (stored vs q0.1 q0.2) := by rw [← h.1]; exact e
    have h := KVi.merge t e2
    exact h
theorem len_putI (kvs : List (Int × Int)) (k v : Int) : (putI kvs k v).length ≤ kvs.length + 1 := by
  unfold putI
  split
  · rw [List.length_map]; exact Nat.le_succ _
  · rw [List.length_append]; exact Nat.le_refl _
theorem len_mergeI : ∀ (more kvs : List (Int × Int)), (mergeI kvs more).length ≤ kvs.length + more.length
  | [], kvs => Nat.le_refl _
  | p :: r, kvs => by
    have h1 := len_mergeI r (putI kvs p.1 p.2)
    have h2 := len_putI kvs p.1 p.2
    show (mergeI (putI kvs p.1 p.2) r).length ≤ _
    rw [List.length_cons]; omega
theorem ients_of {M : MW} {h' : Heap} {a : Addr} {kvs : List (Int × Int)} {vs : List (Int × Value)} (dd : h'.DictOf (intKind M.P M.w) a vs) (r : KVi kvs vs) (hz : kvs.length ≤ sizeLine) : ∃ o, h'.get? a = some o ∧ IEnts M a o kvs := by
  obtain ⟨o, es, ep, h1, h2, h3⟩ := dd
  exact ⟨o, h1, h2, hz, fun h g => ⟨vs, r, o, es, ep, g, h2, h3⟩⟩
section
variable {X : Cx} {pins : List (Addr × Obj)} {σ : L2.St} {H : Hp} {s : Shared}
theorem dki_of (I : Inv X pins σ H s) {a : Addr} {o : Obj} {kvs : List (Int × Int)} (h : H a = some (dO a o)) (he : IEnts (pw X) a o kvs) : ∃ vs, KVi kvs vs ∧ s.heap.DictOf (intKind X.prog X.w) a vs := by
  obtain ⟨hg, _⟩ := (show ObjOk X.prog X.w H s.heap a (dO a o) from I.hok a _ h)
  exact he.2.2 _ hg
end
/-- a new dict of ints -/
def tFI (M : MW) (r : List (Option D)) (K : List (Int × Int) → Prop) : TE := fun σ H Q => ∃ W, Slots M W H r σ ∧ W.ok H ∧
  ∀ p o H2 kvs, K kvs → H p = none → Ext W H H2 → H2 p = some (dO p o) → (p == sysModules) = false → IEnts M p o kvs → Q (.ref p) H2
def pairD (p : Int × Int) : D := .ktp [.int p.1, .int p.2]
section
variable {X : Cx} {r : List (Option D)} {e : Expr} {pos p : Pos}
/-- tuple(xs) of a new kind: told by its object -/
theorem call_ktuple : CallR X (.type "tuple") (fun xs H Q => ∃ p ys, xs = [.ref p] ∧ SqL X.K H p ys ∧ ∀ l o, H l = none → o.dict = none → Q (.ref l) (upd H l (.frz o (.tup ys)))) := by
  intro pins s σ H xs us Q I r h
  obtain ⟨p, ys, rfl, hq, q⟩ := h
  obtain ⟨u, rfl, rx⟩ := vals1 r
  obtain rfl : u = Value.ref p := rx
  obtain ⟨its, r', pl, hz⟩ := I.list hq
  have hlen := r'.length
  refine call_tuple_list pl.isList (fun h' kp => ?_) (by simp only [List.size_toArray] <;> omega)
  have I1 : Inv X pins σ H { s with heap := h' } := I.kept (t' := s.toks) kp
  have hg : (h'.push { cls := .type "tuple", data := .seq its.toArray }).get? h'.objs.size = some { cls := .type "tuple", data := .seq its.toArray } := Heap.get?_push_size _ rfl
  have I2 : Inv X pins σ (upd H h'.objs.size (.frz { cls := .type "tuple", data := .seq its.toArray } (.tup ys))) { s with heap := h'.push { cls := .type "tuple", data := .seq its.toArray } } :=
    I1.laid (t' := s.toks) (fun b o e => Heap.get?_push_of_some _ e) (Nat.le_refl _) ⟨hg, hz, its, r', _, hg, rfl, _, rfl⟩
  exact ⟨.ref h'.objs.size, _, I2, rfl, q _ _ (I1.hok.fresh (Nat.le_refl _)) rfl⟩
theorem ed_ktuple {Ks : List D → Prop} {K : D → Prop} {Ka : List D → Prop} (hm : X.mg "tuple" = none) (ha : PA X [e] (tAN (pw X) r Ka)) (hk : ∀ ds, Ka ds → ∃ es, ds = [.lst es] ∧ K (.ktp es)) (hg : Gl X "tuple" := by rfl) (he : starEach [e] X.env = (false, eval e X.env) :: starEach [] X.env := by rfl) (hpl : (backTo pos (starEach [] X.env)).any (·.1) = false := by rfl) :
    PE X (.Call (.Name "tuple" p) [e] [] pos) (tN (pw X) r K) :=
  (pe_callTy call_ktuple hg hm boot_tuple ha (by decide) (by decide) he hpl).wk fun σ H Q ⟨W, hs, ok, q⟩ => ⟨W, hs, ok, fun vs H1 ds kd' e1 rs => by
    obtain ⟨es, ed, kk⟩ := hk ds kd'
    subst ed
    obtain ⟨v, ev, rv⟩ := rs.one_of
    obtain ⟨a, us, ea, n, h1, h2⟩ := rv
    subst ea
    exact ⟨a, us, ev, .of h1, fun l o hl ho => q _ _ _ kk (e1.trans (.new hl)) ⟨l, us, rfl, (ok.ext e1).nS hl, ⟨o, ho, upd_same⟩, h2.ext (ok.ext e1) (.new hl)⟩⟩⟩
/-- the pairs, in the model -/
theorem pairs_at {W : Wd} {H : Hp} {pins : List (Addr × Obj)} {σ : L2.St} {s : Shared} (I : Inv X pins σ H s) : ∀ {kvs : List (Int × Int)} {vs : List V} {its : List Value}, RepL (pw X) W H (kvs.map pairD) vs → Vals vs its →
    ∃ (Ts : List Addr) (ps : List (Value × Value)), its = Ts.map Value.ref ∧ Ts.length = kvs.length ∧ ps.length = kvs.length ∧ KVi kvs ((kvs.zip ps).map fun (q : (Int × Int) × Value × Value) => (q.1.1, q.2.2)) ∧
      (∀ (j : Nat) (T : Addr), Ts[j]? = some T → ∃ q : Value × Value, ps[j]? = some q ∧ s.heap.IsTuple T #[q.1, q.2]) ∧ (∀ (j : Nat) (k v : Value), ps[j]? = some (k, v) → ∃ q : Int × Int, kvs[j]? = some q ∧ RelV (.int q.1) k)
  | [], vs, its, h, r => by
    rw [show vs = [] from h] at r
    cases r
    exact ⟨[], [], rfl, rfl, rfl, .nil, (fun j T h => by simp at h), (fun j k v h => by simp at h)⟩
  | q :: kvs, vs, its, h, r => by
    obtain ⟨v, rr, e, h1, h2⟩ := h
    subst e
    cases r with
    | @cons _ u _ us r1 r2 =>
      obtain ⟨Ts, ps, e1, e2, e3, e4, e5, e6⟩ := pairs_at I (kvs := kvs) h2 r2
      obtain ⟨a, xs, ea, n, ⟨ob, od, g1⟩, g2⟩ := h1
      subst ea
      obtain rfl : u = Value.ref a := r1
      obtain ⟨x, y, exy, gx, gy⟩ := RepL.two_of g2
      rw [show x = V.int q.1 from gx, show y = V.int q.2 from gy] at exy
      obtain ⟨_, _, its2, rv, o, o1, o2, m, o3⟩ := (show ObjOk X.prog X.w H s.heap a (.frz ob (.tup xs)) from I.hok a _ g1)
      rw [exy] at rv
      obtain ⟨k, w, rfl, rk, rw'⟩ := vals2 rv
      refine ⟨a :: Ts, (k, w) :: ps, by rw [e1]; rfl, by simp [e2], by simp [e3], .cons ⟨rfl, rw'⟩ e4, fun j T hT => ?_, fun j k' v' hj => ?_⟩
      · cases j with
        | zero =>
          have : a = T := by simpa using hT
          subst this
          exact ⟨(k, w), rfl, o, o1, o2, m, o3⟩
        | succ j => exact e5 j T (by simpa using hT)
      · cases j with
        | zero =>
          have : (k, w) = (k', v') := by simpa using hj
          cases this
          exact ⟨q, rfl, rk⟩
        | succ j => exact e6 j k' v' (by simpa using hj)
def rDictI (M : MW) (kvs : List (Int × Int)) : List V → Hp → VK → Prop := fun xs H1 Q => ∃ W x, xs = [x] ∧ Rep M W H1 (.ktp (kvs.map pairD)) x ∧ ∀ p o, H1 p = none → (p == sysModules) = false → IEnts M p o (mergeI [] kvs) → Q (.ref p) (upd H1 p (dO p o))
theorem call_dictI {kvs : List (Int × Int)} (hc : X.calm = true) (hz : kvs.length ≤ sizeLine) : CallR X (.type "dict") (rDictI (pw X) kvs) := by
  intro pins s σ H xs us Q I rr h
  obtain ⟨W, x, rfl, ⟨a, vs, ex, n, ⟨o, od, h1⟩, h2⟩, q⟩ := h
  subst ex
  obtain ⟨u, rfl, ru⟩ := vals1 rr
  obtain rfl : u = Value.ref a := ru
  obtain ⟨og, _, its, rv, o2, o1, o3, m, o4⟩ := (show ObjOk X.prog X.w H s.heap a (.frz o (.tup vs)) from I.hok a _ h1)
  rw [og] at o1
  cases o1
  obtain ⟨Ts, ps, e1, e2, e3, e4, e5, e6⟩ := pairs_at I h2 rv
  have P := PairArg.tuple (prog := X.prog) (w := X.w) a its.toArray (fun j => Ts.getD j 0) ps
  have hitems : PairItems s.heap its.toArray (fun j => Ts.getD j 0) ps := by
    refine ⟨by rw [List.size_toArray, e1, List.length_map, e2, e3], fun j k v hj => ?_⟩
    have hlt : j < Ts.length := by rw [e2, ← e3]; exact (List.getElem?_eq_some_iff.mp hj).1
    obtain ⟨q0, hq0, ht⟩ := e5 j Ts[j] (by simp [hlt])
    rw [hj] at hq0
    cases hq0
    have : Ts.getD j 0 = Ts[j] := by simp [hlt]
    show its.toArray[j]? = some (Value.ref (Ts.getD j 0)) ∧ PairAt s.heap (Ts.getD j 0) k v
    rw [this]
    exact ⟨by simp [e1, hlt], .inl ht⟩
  refine call_dict_pairs (knd := intKind X.prog X.w) (kvs := (kvs.zip ps).map fun (q : (Int × Int) × Value × Value) => (q.1.1, q.2.2)) P (I.ok.hd hc) ⟨⟨o, m, og, o3, od, o4⟩, hitems⟩ ⟨by rw [List.length_map, List.length_zip, e3]; omega, fun i key v hi => ?_⟩ (by rw [e3]; exact hz) fun h' tk dd hk => ?_
  · obtain ⟨q0, hq0, rk⟩ := e6 i key v hi
    have hi' : ps[i]? = some (key, v) := hi
    refine ⟨q0.1, ?_, ?_⟩
    · rw [List.getElem?_map, show (kvs.zip ps)[i]? = some (q0, (key, v)) from List.getElem?_zip_eq_some.mpr ⟨hq0, hi'⟩]; rfl
    · obtain ⟨t, rfl⟩ := rk
      show Value.isInt q0.1 (.int q0.1 t) = true
      simp [Value.isInt]
  · have hkv := KVi.merge e4 (.nil : KVi [] [])
    obtain ⟨o', ho', he'⟩ := ients_of (M := pw X) dd hkv (by
      have := len_mergeI kvs []
      rw [List.length_nil] at this
      omega)
    exact ⟨.ref s.heap.objs.size, _, I.laid (t' := tk) (fun b u e => hk b u (fun z => nomatch z) e) (Nat.le_refl _) (dO_ok ho'), rfl, q _ o' (I.hok.fresh (Nat.le_refl _)) (big_of I) he'⟩
theorem ef_dictI {kvs : List (Int × Int)} (hc : X.calm = true) (hm : X.mg "dict" = none) (hz : kvs.length ≤ sizeLine) (ha : PA X [e] (tAD (pw X) r [.ktp (kvs.map pairD)])) (hg : Gl X "dict" := by rfl) (he : starEach [e] X.env = (false, eval e X.env) :: starEach [] X.env := by rfl) (hpl : (backTo pos (starEach [] X.env)).any (·.1) = false := by rfl) :
    PE X (.Call (.Name "dict" p) [e] [] pos) (tFI (pw X) r (fun k => k = mergeI [] kvs)) :=
  (pe_callTy (call_dictI hc hz) hg hm (by decide +kernel) ha (by decide) (by decide) he hpl).wk fun σ H Q ⟨W, hs, ok, q⟩ => ⟨W, hs, ok, fun vs H1 ds kd' e1 rs => by
    subst kd'
    obtain ⟨v, ev, rv⟩ := rs.one_of
    exact ⟨W, v, ev, rv, fun p o hp hb he => q p o _ _ rfl (e1.free ok hp) (e1.trans (.new hp)) upd_same hb he⟩⟩
/-! left.get(k, x); left.items() -/
def rGetI (M : MW) (x y z : V) (H : Hp) (Q : VK) : Prop := ∃ W kvs k, Rep M W H (.dki kvs) x ∧ y = .int k ∧ Q (match valI kvs k with | some v => .int v | none => z) H
def tGetI (M : MW) (td ty tx : TE) : TE := fun σ H Q => td σ H fun x H1 => (∃ W kvs, Rep M W H1 (.dki kvs) x) ∧ ty σ H1 fun y H2 => tx σ H2 fun z H3 => rGetI M x y z H3 Q
theorem pe_getI {o f : Expr} {apos cpos : Pos} {td ty tx : TE} (ho : PE X o td) (he : PE X e ty) (hf : PE X f tx) (m : M2 X o "get" apos e f cpos) : PE X (.Call (.Attribute o "get" apos) [e, f] [] cpos) (tGetI (pw X) td ty tx) := by
  refine ⟨fun pins s σ H Q I h => ?_⟩
  refine wpAny_Call_method m.base m.few m.line PySem.F.plainAttrs_dict PySem.F.slot_dict_get PySem.F.type_dict_get (thn (ho.run pins s σ H _ I h) fun u s1 ⟨x, H1, I1, rx, ⟨W, kvs, a, ob, ex, n, h1, h0, hx⟩, q1⟩ => ?_)
  subst ex
  obtain rfl : u = Value.ref a := rx
  obtain ⟨hg, _⟩ := (show ObjOk X.prog X.w H1 s1.heap a (dO a ob) from I1.hok a _ h1)
  refine ⟨⟨ob, hg, hx.1.1⟩, (fun b q => by cases q; exact ⟨ob, hg, hx.1.2.1⟩), ?_⟩
  rw [m.trees]
  refine Calls.callWith_builtin rfl (Calls.evalArgs_plain (Calls.spliced_cons (thn (he.run pins s1 σ H1 _ I1 q1) fun iv s2 ⟨y, H2, I2, ry, q2⟩ =>
    Calls.spliced_cons (thn (hf.run pins s2 σ H2 _ I2 q2) fun fv s3 ⟨z, H3, I3, rz, W3, kvs3, k, ⟨a', ob', ea, n', g1, g0, gx⟩, ey, q3⟩ => Calls.spliced_nil ?_))))
  cases ea
  subst ey
  obtain ⟨t, rfl⟩ := ry
  obtain ⟨vs, kv, dd⟩ := dki_of I3 g1 gx
  refine call_meetsIn PySem.F.slot_dict_get dd.typeIs PySem.F.entry_dict_get (PySem.F.args_dict_get_3 _ _ _) (meets_dict_get_default (intKind X.prog X.w) a (k := k) (by show Value.isInt k (.int k t) = true; simp [Value.isInt]) g0 fv) ⟨_, dd.mapOf, ?_⟩
  rcases kv.val k with ⟨v1, v2⟩ | ⟨v, u, v1, v2, v3⟩
  · rw [v1] at q3
    rw [v2]
    exact ⟨z, H3, I3.tok _, rz, q3⟩
  · rw [v1] at q3
    rw [v2]
    exact ⟨.int v, H3, I3.tok _, v3, q3⟩
theorem ed_getI {o f : Expr} {apos cpos : Pos} {kvs : List (Int × Int)} {k z : Int} (ho : PE X o (tD (pw X) r (.dki kvs))) (he : PE X e (tD (pw X) r (.int k))) (hf : PE X f (tD (pw X) r (.int z))) (m : M2 X o "get" apos e f cpos) : PE X (.Call (.Attribute o "get" apos) [e, f] [] cpos) (tD (pw X) r (.int ((valI kvs k).getD z))) :=
  (pe_getI ho he hf m).wk fun σ H Q ⟨W, hs, ok, q⟩ => ⟨W, hs, ok, fun x H1 dx kx e1 rx => by
    subst kx
    refine ⟨⟨W, kvs, rx⟩, W, hs.ext ok e1, ok.ext e1, fun y H2 dy ky e2 ry => ⟨W, (hs.ext ok e1).ext (ok.ext e1) e2, (ok.ext e1).ext e2, fun w H3 dw kw e3 rw' => ?_⟩⟩
    subst ky; subst kw
    refine ⟨W, kvs, k, (rx.ext (ok.ext e1) e2).ext ((ok.ext e1).ext e2) e3, (show y = V.int k from ry), ?_⟩
    rw [show w = V.int z from rw']
    cases hv : valI kvs k with
    | none =>
      rw [hv] at q
      exact q _ H3 _ rfl ((e1.trans e2).trans e3) rfl
    | some v =>
      rw [hv] at q
      exact q _ H3 _ rfl ((e1.trans e2).trans e3) rfl⟩
end
/-! items() of a dict of ints -/
def ItItemsI (d : Addr) (o : Obj) (kvs : List (Int × Int)) : It :=
  ⟨fun i H => H d = some (dO d o) ∧ i < kvs.length, fun i H x H' => ∃ T q, kvs[i]? = some q ∧ x = .ref T ∧ H T = none ∧ H' = upd H T (.tup [.int q.1, .int q.2]), fun i H => H d = some (dO d o) ∧ kvs.length ≤ i⟩
theorem IEnts.raw {M : MW} {d : Addr} {o : Obj} {kvs : List (Int × Int)} (h : IEnts M d o kvs) {hp : Heap} (g : hp.get? d = some o) : ∃ raw ep, hp.DictRaw d raw ep ∧ o.data = .dict raw ep ∧ raw.size = kvs.length ∧ ∀ i (hi : i < raw.size), ∃ q, kvs[i]? = some q ∧ RelV (.int q.1) raw[i].key ∧ RelV (.int q.2) raw[i].val := by
  obtain ⟨x, hz, hv⟩ := h
  obtain ⟨vs, kv, dd⟩ := hv hp g
  have hl : kvs.length = vs.length := Paired.length kv
  obtain ⟨raw, ep, hr, hs, he⟩ := dd.raw
  obtain ⟨o', ho', hx, hdt⟩ := id hr
  rw [g] at ho'
  cases ho'
  refine ⟨raw, ep, hr, hdt, by omega, fun i hi => ?_⟩
  obtain ⟨q, hq⟩ : ∃ q, kvs[i]? = some q := ⟨kvs[i]'(by omega), by simp [show i < kvs.length by omega]⟩
  obtain ⟨w, hw, h1, h2⟩ := paired_get kv hq
  obtain ⟨k1, k2⟩ := he i hi w.1 w.2 hw
  refine ⟨q, hq, ?_, by rw [k2]; exact h2⟩
  rw [h1]
  obtain ⟨t, e⟩ := Value.isInt_shape k1
  exact ⟨t, e⟩
section
variable {P : Program} {w : World} {KK : PySem.W.Frag} {tg : Expr} {d : Addr} {o : Obj} {kvs : List (Int × Int)}
theorem turn_itemsI {elts : List Expr} {kk : Nat} {tpos : Pos} (it : Addr) {raw : Array DictEntry} {ep : Nat} (he : IEnts ⟨P, w⟩ d o kvs) (hod : o.data = .dict raw ep) :
    Turn P w KK (.Tuple elts kk tpos) (ItItemsI d o kvs) [it] it (fun i h => ∃ ok ov, IsItemIter h it d i kvs.length ep ok ov) where
  mem := by simp
  obj := fun i h st b hb => by
    have e : b = it := by simpa using hb
    subst e
    obtain ⟨ok, ov, e⟩ := st
    exact ⟨_, e, fun v z => nomatch z⟩
  keep := fun i h h' st k => let ⟨ok, ov, e⟩ := st; ⟨ok, ov, k it (by simp) _ e⟩
  item := by
    intro X hP hw hK hc i pins s σ H E I hf st hg
    subst hP hw hK
    obtain ⟨hd, hi⟩ := hg
    obtain ⟨hgd, _⟩ := (show ObjOk X.prog X.w H s.heap d (dO d o) from I.hok d _ hd)
    obtain ⟨raw', ep', hr, hdt, hsz, ent⟩ := he.raw hgd
    obtain ⟨rfl, rfl⟩ := dict_ep hod hdt
    obtain ⟨q, hq, hkey, hval⟩ := ent i (by omega)
    obtain ⟨ok, ov, hit⟩ := st
    rw [← hsz] at hit
    have hlt : it < s.heap.objs.size := Heap.lt_size hit
    refine wpAny_pyNext_items_item_raw hit hr (by omega) fun h' ho hT hz' hk => ?_
    refine ⟨_, rfl, wpAny_letOwnedTupleGo_items (s := { s with heap := h' }) ho fun h'' he' sb => ?_⟩
    have hT2 : h''.get? s.heap.objs.size = some { cls := .type "tuple", data := .seq #[raw'[i].key, raw'[i].val] } := (sb.2 _ (Nat.ne_of_gt hlt)).trans hT
    have new : ObjOk X.prog X.w (upd H s.heap.objs.size (.tup [.int q.1, .int q.2])) h'' s.heap.objs.size (.tup [.int q.1, .int q.2]) :=
      ⟨by show 2 ≤ sizeLine; decide, [raw'[i].key, raw'[i].val], .cons hkey (.cons hval .nil), ⟨_, hT2, rfl, _, rfl⟩⟩
    have I1 : Inv X pins σ (upd H s.heap.objs.size (.tup [.int q.1, .int q.2])) { s with heap := h'' } :=
      I.turnedNew (t' := s.toks) (ch := [it]) (fun b ob hb e => (sb.2 b (by simpa using hb)).trans (hk b ob (by simpa using hb) e)) hf (Nat.le_refl _) new
    refine ⟨.ref s.heap.objs.size, _, I1, rfl, ⟨_, q, hq, rfl, I.hok.fresh (Nat.le_refl _), rfl⟩, ⟨raw'[i].key, raw'[i].val, ?_⟩, fun b hb => ?_⟩
    · rw [← hsz]; exact he'
    · have e : b = it := by simpa using hb
      rw [e, upd_ne (Nat.ne_of_lt hlt)]
      exact (hf it (by simp)).1
  done := by
    intro X hP hw hK hc i pins s σ H E I hf st hg
    subst hP hw hK
    obtain ⟨hd, hi⟩ := hg
    obtain ⟨f0, f1, f2, f3, f4, f5⟩ := hf it (by simp)
    obtain ⟨hgd, _⟩ := (show ObjOk X.prog X.w H s.heap d (dO d o) from I.hok d _ hd)
    obtain ⟨raw', ep', hr, hdt, hsz, ent⟩ := he.raw hgd
    obtain ⟨rfl, rfl⟩ := dict_ep hod hdt
    obtain ⟨ok, ov, hit⟩ := st
    rw [← hsz] at hit
    exact wpAny_pyNext_items_end_raw (I.ok.hd hc) hit hr (by omega) fun h' eb => ⟨rfl, I.turned (t' := s.toks) (fun b ob hb e => eb b ob hb e) f0 f1 f3 f4 f5⟩
  self := fun A i s Q E st h => let ⟨_, _, e⟩ := st; PySem.W.kcp_self e h
end
theorem itd_itemsI {M : MW} {W : Wd} {H1 : Hp} {a : Addr} {o : Obj} {kvs : List (Int × Int)} (n : ¬ W.S a) (h : H1 a = some (dO a o)) : ItD M W H1 (ItItemsI a o kvs) (kvs.map fun q => D.tup [.int q.1, .int q.2]) where
  go := fun W' i H s hi => by
    obtain ⟨h1, _⟩ := s.car.keep a _ n h
    rw [List.length_map] at hi
    exact ⟨h1, hi⟩
  stop := fun W' H s => by
    obtain ⟨h1, _⟩ := s.car.keep a _ n h
    exact ⟨h1, by rw [List.length_map]; exact Nat.le_refl _⟩
  yld := fun W' i H x H' s hi y => by
    obtain ⟨T, q, hq, ex, hT, eH⟩ := y
    subst eH; subst ex
    have sm : Same H (upd H T (.tup [.int q.1, .int q.2])) := fun c o e => by rw [upd_ne (ne_of_none e hT)]; exact e
    have nT : ¬ W'.S T := fun q => by
      obtain ⟨o, e⟩ := s.tr T q
      rw [hT] at e; cases e
    exact ⟨sm, .tup [.int q.1, .int q.2], by rw [List.getElem?_map, hq]; rfl, T, _, rfl, nT, upd_same, _, _, rfl, rfl, _, [], rfl, rfl, rfl⟩
section
variable {X : Cx} {r : List (Option D)} {e tg : Expr} {pos p apos cpos tpos : Pos} {kvs : List (Int × Int)} {elts : List Expr} {kk : Nat}
theorem ei_itemsI (h : PE X e (tD (pw X) r (.dki kvs))) (hbase : attributeBase e "items" X.env (eval e X.env) = eval e X.env := by rfl) (hline : (apos.endLine == cpos.line) = true := by rfl) : PI X (.Tuple elts kk tpos) (.Call (.Attribute e "items" apos) [] [] cpos) (tI (pw X) r (kvs.map fun q => D.tup [.int q.1, .int q.2])) := by
  refine ⟨fun pins s σ H R I ⟨W, hs, ok, q⟩ => ?_⟩
  refine wpAny_Call_method (T := "dict") (id := "dict.items") hbase rfl hline F.plainAttrs_dict F.slot_dict_items F.type_dict_items (thn (h.run pins s σ H (fun v H1 => Ext W H H1 ∧ Rep (pw X) W H1 (.dki kvs) v) I ⟨W, hs, ok, fun v H1 d kd e1 rv => ⟨e1, by rw [← kd]; exact rv⟩⟩) fun u s1 ⟨x, H1, I1, rx, e1, rv⟩ => ?_)
  obtain ⟨a, o, ex, n, h1, h0, he⟩ := rv
  subst ex
  obtain rfl : u = Value.ref a := rx
  obtain ⟨hg, _⟩ := (show ObjOk X.prog X.w H1 s1.heap a (dO a o) from I1.hok a _ h1)
  obtain ⟨raw, ep, hr, hdt, hsz, ent⟩ := he.raw hg
  refine ⟨⟨o, hg, he.1.1⟩, (fun b q => by cases q; exact ⟨o, hg, he.1.2.1⟩), ?_⟩
  have I2 : Inv X pins σ H1 { s1 with heap := s1.heap.push { cls := .type "dict_items", data := .fields #[.ref a] } } := I1.kept (t' := s1.toks) fun b ob q => Heap.get?_push_of_some _ q
  have fin : wpAny (model X.prog X.w) X.A (pyIter (.ref s1.heap.objs.size)) (PIE X pins σ (.Tuple elts kk tpos) R) X.xe { s1 with heap := s1.heap.push { cls := .type "dict_items", data := .fields #[.ref a] } } := by
    refine wpAny_pyIter_items_raw (d := a) ⟨_, Heap.get?_push_size _ rfl, rfl, rfl⟩ (hr.push _) (pi_one (tk := s1.toks) I2 _ (turn_itemsI _ he hdt) ⟨.none, .none, ?_⟩ (q _ H1 _ rfl e1 (itd_itemsI n h1)))
    rw [← hsz]
    exact Heap.get?_push_size _ rfl
  show wpAny _ _ (callWith cpos (.builtin "dict.items") [.ref a] [] []) _ X.xe s1
  exact method_meetsIn F.slot_dict_items F.entry_dict_items rfl (PySem.evalArgs_none ⟨rfl, ⟨o, hg, he.1.1⟩, F.args_dict_items_1 _, _, meets_dict_items_raw a h0, ⟨⟨raw, ep, hr⟩, fin⟩⟩)
/-! left[k] = v -/
def sPutI (M : MW) (td ty tv : TE) : TS := fun D σ H => tv σ H fun v H1 => td σ H1 fun x H2 => ty σ H2 fun y H3 => ∃ (a : Addr) (o : Obj) (kvs : List (Int × Int)) (k n : Int),
  x = .ref a ∧ H3 a = some (dO a o) ∧ IEnts M a o kvs ∧ y = .int k ∧ v = .int n ∧ kvs.length < sizeLine ∧ ∀ o', IEnts M a o' (putI kvs k n) → D.nx σ (L2.upd H3 a (dO a o'))
theorem ps_putI {o i value : Expr} {pos' : Pos} {td ty tv : TE} (ho : PE X o td) (hi : PE X i ty) (hv : PE X value tv) (hs : swapsWith value (some (.Subscript o i pos')) pos.line X.env = pure false := by rfl) :
    PS X (.Assign [.Subscript o i pos'] value pos) (sPutI (pw X) td ty tv) := by
  refine ⟨fun pins s σ H D I h => ?_⟩
  refine wpAny_Assign_Subscript (thn (hv.run pins s σ H _ I h) fun r s1 ⟨v, H1, I1, rv, q1⟩ => thn (ho.run pins s1 σ H1 _ I1 q1) fun u s2 ⟨x, H2, I2, rx, q2⟩ => thn (hi.run pins s2 σ H2 _ I2 q2) fun iv s3 ⟨y, H3, I3, ry, a, ob, kvs, k, n, ex, h1, he, ey, ev, hz, q3⟩ => ?_) hs
  subst ex; subst ey; subst ev
  obtain rfl : u = Value.ref a := rx
  obtain ⟨t, rfl⟩ := ry
  obtain ⟨vs, kv, dd⟩ := dki_of I3 h1 he
  have hl : kvs.length = vs.length := Paired.length kv
  refine wpAny_setItem_pairs (knd := intKind X.prog X.w) (k := k) (hsz := by omega) (by show Value.isInt k (.int k t) = true; simp [Value.isInt]) dd fun h' dd' sb => ?_
  obtain ⟨o', ho', he'⟩ := ients_of (M := pw X) dd' (kv.put k rv) (by have := len_putI kvs k n; omega)
  exact ⟨σ, _, I3.write (x := a) (e := a) (by rw [h1]; exact True.intro) (.inl rfl) (fun c q hc z => (sb.2 c hc).trans z) ⟨_, ho'⟩ (dO_ok ho'), q3 o' he'⟩
variable {W : Wd} {H0 : Hp} {rest : List Stmt} {E : Ends} {x : Str} {pos' : Pos}
theorem At.tFI {M : MW} {r : List Slot} {σ : L2.St} {H : Hp} {Q : VK} {Ks : List (Int × Int) → Prop} {i : Nat} (a : At M W H0 r σ H) (hi : i < r.length) (q : ∀ p H2 ds, Ks ds → At M W H0 (r.set i (.ownI ds)) (σ.set i (some (.ref p))) H2 → Q (.ref p) H2) : PD.tFI M (vis r) Ks σ H Q := by
  obtain ⟨own, a⟩ := a
  exact ⟨W.adds (OwnS own), a.slots, a.ok', fun p o H2 ds ks hp e h2 h0 he => q p H2 ds ks (a.new hi hp (Ext.adds.mp e) ⟨p, o, rfl, rfl, h2, h0, he⟩)⟩
theorem hs_setNewI {r : List Slot} (i : Nat) {Ks : List (Int × Int) → Prop} (he : PE X e (tFI (pw X) (vis r) Ks)) (k : ∀ ds, Ks ds → Hs X rest (At (pw X) W H0 (r.set i (.ownI ds))) E) (hr : i < r.length) (hN : X.N.Nodup) (hi : X.N[i]? = some x := by rfl) (hx : Loc X.env.scope x := by first | exact .inl rfl | exact .inr rfl)
    (hs : swapsWith e (some (.Name x pos')) pos.line X.env = pure false := by rfl) (hf : X.fn x = true ∨ X.env.scope.names.lookup x = some .local := by first | exact .inl rfl | exact .inr rfl | assumption) :
    Hs X (.Assign [.Name x pos'] e pos :: rest) (At (pw X) W H0 r) E :=
  hs_cons (M := fun σ H => ∃ d : { d // Ks d }, At (pw X) W H0 (r.set i (.ownI d.1)) σ H) (ps_set hN hi hx he hs hf) (fun σ H a => a.tFI hr fun p H2 ds ks a => ⟨⟨ds, ks⟩, a⟩) (hs_ex fun d => k d.1 d.2)
theorem hs_frzI {r : List Slot} (i : Nat) {sts : List Stmt} {ds : List (Int × Int)} (ho : r[i]? = some (.ownI ds)) (k : Hs X sts (At (pw X) W H0 (r.set i (.val (.dki ds)))) E) : Hs X sts (At (pw X) W H0 r) E := hs_pre (fun σ H a => a.frzI ho) k
/-- name[k] = e, e an int, name the dict of ints that is being built at slot i (and may be read by e and k) -/
theorem hs_iput {r : List Slot} {oe ke : Expr} {kvs : List (Int × Int)} {k n : Int} (i : Nat) (he : PE X e (tD (pw X) (vis (r.set i (.val (.dki kvs)))) (.int n))) (ho : PE X oe (tVar i)) (hk : PE X ke (tD (pw X) (vis (r.set i (.val (.dki kvs)))) (.int k))) (hr : r[i]? = some (.ownI kvs)) (hl : kvs.length < sizeLine)
    (kk : Hs X rest (At (pw X) W H0 (r.set i (.ownI (putI kvs k n)))) E) (hs : swapsWith e (some (.Subscript oe ke pos')) pos.line X.env = pure false := by rfl) :
    Hs X (.Assign [.Subscript oe ke pos'] e pos :: rest) (At (pw X) W H0 r) E := by
  refine hs_cons (M := At (pw X) W H0 (r.set i (.ownI (putI kvs k n)))) (ps_putI ho hk he hs) (fun σ H a => ?_) kk
  have hi : i < r.length := (List.getElem?_eq_some_iff.mp hr).1
  obtain ⟨own, a⟩ := a
  obtain ⟨p, o, h1, h2, h3, h0, h4⟩ := a.sl i _ hr
  obtain ⟨v, hv, rv, own', a'⟩ := a.freezeI hr
  refine ⟨_, a'.slots, a'.ok', fun w H1 d kd e1 rw' => ?_⟩
  subst kd
  refine ⟨.ref p, h2, _, a'.slots.ext a'.ok' e1, a'.ok'.ext e1, fun y H3 dy ky e3 ry => ?_⟩
  subst ky
  have e13 : Ext W H H3 := Ext.adds.mp (e1.trans e3)
  have a3 := a.go e13
  have h3' : H3 p = some (dO p o) := e13.keep _ _ (a.nT h1) h3
  refine ⟨p, o, kvs, k, n, rfl, h3', h4, ry, rw', hl, fun o' he' => ?_⟩
  have hsl : SlotOk (pw X) (W.adds (OwnS own)) (L2.upd H3 p (dO p o')) (some p) (.ownI (putI kvs k n)) σ[i]? := ⟨p, o', rfl, h2, upd_same, h0, he'⟩
  exact a3.upd hi h1 hsl
end
end PD

set_option Elab.async false
set_option linter.all false
set_option maxRecDepth 100000
set_option maxHeartbeats 2000000
/-! Pd18: a table in the making. -/
namespace PD
open PySem L2 PySem.Spec PyProof.Rows
mutual
/-- no instance, no list of a table's own -/
def isPl : D → Bool
  | .non => true
  | .bl _ => true
  | .int _ => true
  | .str _ => true
  | .tup ds => isPls ds
  | .lst ds => isPls ds
  | .dct kvs => isPlk kvs
  | .ins _ _ => false
  | .src => true
  | .dki _ => true
  | .ktp ds => isPls ds
  | .flst _ => false
  | .adr _ => true
def isPls : List D → Bool
  | [] => true
  | d :: ds => isPl d && isPls ds
def isPlk : List (NestedKey × D) → Bool
  | [] => true
  | (_, d) :: r => isPl d && isPlk r
end
/-- what a plain datum may stand on is kept -/
def KeepPl (H H' : Hp) : Prop := ∀ a o, H a = some o → (match o with | .ins _ _ _ => False | .frz _ (.lst _) => False | _ => True) → H' a = some o
section
variable {M : MW} {W : Wd} {H H' : Hp}
mutual
theorem KRep.pl (k : KeepPl H H') : ∀ (x : NestedKey) (v : V), KRep W H x v → KRep W H' x v
  | .none, v, h => h
  | .num i, v, h => h
  | .text x, v, h => h
  | .tup ks, v, ⟨a, vs, e, n, ⟨o, od, h1⟩, h2⟩ => ⟨a, vs, e, n, ⟨o, od, k a _ h1 trivial⟩, KRepL.pl k ks vs h2⟩
theorem KRepL.pl (k : KeepPl H H') : ∀ (x : List NestedKey) (vs : List V), KRepL W H x vs → KRepL W H' x vs
  | [], vs, h => h
  | x :: xs, vs, ⟨v, r, e, h1, h2⟩ => ⟨v, r, e, KRep.pl k x v h1, KRepL.pl k xs r h2⟩
end
mutual
theorem Rep.pl (k : KeepPl H H') : ∀ (d : D) (v : V), isPl d = true → Rep M W H d v → Rep M W H' d v
  | .non, v, _, h => h
  | .bl b, v, _, h => h
  | .int i, v, _, h => h
  | .str x, v, _, h => h
  | .tup ds, v, p, ⟨a, vs, e, n, h1, h2⟩ => ⟨a, vs, e, n, k a _ h1 trivial, RepL.pl k ds vs (by unfold isPl at p; exact p) h2⟩
  | .lst ds, v, p, ⟨a, vs, e, n, h1, h2⟩ => ⟨a, vs, e, n, k a _ h1 trivial, RepL.pl k ds vs (by unfold isPl at p; exact p) h2⟩
  | .dct kvs, v, p, ⟨a, o, es, e, n, h1, h0, h3, h2⟩ => ⟨a, o, es, e, n, k a _ h1 trivial, h0, h3, RepKV.pl k kvs es (by unfold isPl at p; exact p) h2⟩
  | .ins C fs, v, p, _ => by unfold isPl at p; cases p
  | .src, v, _, h => h
  | .dki kvs, v, _, ⟨a, o, e, n, h1, h0, h3⟩ => ⟨a, o, e, n, k a _ h1 trivial, h0, h3⟩
  | .ktp ds, v, p, ⟨a, vs, e, n, ⟨o, od, h1⟩, h2⟩ => ⟨a, vs, e, n, ⟨o, od, k a _ h1 trivial⟩, RepL.pl k ds vs (by unfold isPl at p; exact p) h2⟩
  | .flst ds, v, p, _ => by unfold isPl at p; cases p
  | .adr a, v, _, h => h
theorem RepL.pl (k : KeepPl H H') : ∀ (ds : List D) (vs : List V), isPls ds = true → RepL M W H ds vs → RepL M W H' ds vs
  | [], vs, _, h => h
  | d :: ds, vs, p, ⟨v, r, e, h1, h2⟩ => by
    unfold isPls at p
    simp only [Bool.and_eq_true] at p
    exact ⟨v, r, e, Rep.pl k d v p.1 h1, RepL.pl k ds r p.2 h2⟩
theorem RepKV.pl (k : KeepPl H H') : ∀ (ds : List (NestedKey × D)) (vs : List (NestedKey × Addr × Value)), isPlk ds = true → RepKV M W H ds vs → RepKV M W H' ds vs
  | [], vs, _, h => h
  | (x, d) :: ds, vs, p, ⟨a, u, v, es', e, h1, h2, h3, h4⟩ => by
    unfold isPlk at p
    simp only [Bool.and_eq_true] at p
    exact ⟨a, u, v, es', e, KRep.pl k x _ h1, h2, Rep.pl k d v p.1 h3, RepKV.pl k ds es' p.2 h4⟩
end
def plF (fs : List (Str × D)) : Bool := fs.all fun x => isPl x.2
theorem RepF.pl (k : KeepPl H H') {fs : List (Str × D)} {gs gs' : List (Str × V)} (p : plF fs = true) (hl : ∀ x ∈ fs, gs'.lookup x.1 = gs.lookup x.1) (h : RepF M W H fs gs) : RepF M W H' fs gs' := by
  induction fs with
  | nil => trivial
  | cons x fs ih =>
    unfold plF at p
    rw [List.all_cons, Bool.and_eq_true] at p
    obtain ⟨⟨v, h1, h2⟩, h3⟩ := h
    exact ⟨⟨v, (hl x List.mem_cons_self).trans h1, Rep.pl k x.2 v p.1 h2⟩, ih p.2 (fun y hy => hl y (List.mem_cons_of_mem _ hy)) h3⟩
/-- slots besides the table's own -/
def plS : Slot → Bool
  | .none => true
  | .val d => isPl d
  | .own ds => isPls ds
  | .ownD kvs => isPlk kvs
  | .ownI _ => true
  | .selfS .. => false
theorem SlotOk.pl {oi : Option Addr} {s : Slot} {v : Option (Option V)} (k : KeepPl H H') (p : plS s = true) (h : SlotOk M W H oi s v) : SlotOk M W H' oi s v := by
  cases s with
  | none => exact h
  | val d => obtain ⟨h1, x, h2, h3⟩ := h; exact ⟨h1, x, h2, Rep.pl k d x p h3⟩
  | own ds => obtain ⟨q, vs, h1, h2, h3, h4⟩ := h; exact ⟨q, vs, h1, h2, k q _ h3 trivial, RepL.pl k ds vs p h4⟩
  | ownD kvs => obtain ⟨q, o, es, h1, h2, h3, h0, h4, h5⟩ := h; exact ⟨q, o, es, h1, h2, k q _ h3 trivial, h0, h4, RepKV.pl k kvs es p h5⟩
  | ownI kvs => obtain ⟨q, o, h1, h2, h3, h0, h4⟩ := h; exact ⟨q, o, h1, h2, k q _ h3 trivial, h0, h4⟩
  | selfS p dx C fs ls => cases p
/-- the table at slot 0 is changed: only its own things change -/
theorem AtO.self {H0 : Hp} {r : List Slot} {σ : L2.St} {own : Nat → Option Addr} {s s' : Slot} (a : AtO M W H0 (s :: r) σ H own) (h0 : own 0 = Option.none) (hp : r.all plS = true) (k : KeepPl H H') (e : Ext W H0 H') (hs : SlotOk M (W.adds (OwnS own)) H' Option.none s' σ[0]?) : AtO M W H0 (s' :: r) σ H' own := by
  refine ⟨a.ok, e, by have := a.len; simpa using this, a.inj, a.fresh, fun i p h => by have := a.bnd i p h; simpa using this, fun i t h => ?_⟩
  cases i with
  | zero =>
    have h : s' = t := by simpa using h
    subst h
    rw [h0]
    exact hs
  | succ i =>
    have h : r[i]? = some t := by simpa using h
    exact (a.sl (i + 1) t (by simpa using h)).pl k (List.all_eq_true.mp hp t (List.mem_of_getElem? h))
/-- what the table's heap must be beside the base -/
structure Base (X : Cx) (H0 : Hp) (p dx : Addr) (ls : List (Str × Addr × List D)) : Prop where
  p0 : H0 p = Option.none
  q0 : ∀ x ∈ ls, H0 x.2.1 = Option.none ∧ X.H_0 x.2.1 = Option.none ∧ x.2.1 ≠ p
  nd : (ls.map fun x => x.2.1).Nodup
  h0 : ∀ a o, X.H_0 a = some o → a = p ∨ a = dx ∨ ∃ o', H0 a = some o'
end
/-- the field f is set to v -/
theorem self_put {M : MW} {W W' : Wd} {H : Hp} {p C dx : Addr} {fs : List (Str × D)} {ls : List (Str × Addr × List D)} {gs : List (Str × V)} {f : Str} {v : V} (hfs : plF fs = true) (hls : ls.all (fun x => isPls x.2.2) = true) (hf : ∀ x ∈ fs, x.1 ≠ f) (hl : ∀ x ∈ ls, x.1 ≠ f) (hq : ∀ x ∈ ls, x.2.1 ≠ p)
    (h6 : RepF M W H fs gs) (h7 : ∀ x ∈ ls, gs.lookup x.1 = some (.ref x.2.1) ∧ ¬ W.S x.2.1 ∧ ∃ o vs, H x.2.1 = some (.frz o (.lst vs)) ∧ RepL M W H x.2.2 vs) (k : KeepPl H (upd H p (.ins C dx (putF f v gs)))) :
    RepF M W (upd H p (.ins C dx (putF f v gs))) fs (putF f v gs) ∧ ∀ x ∈ ls, (putF f v gs).lookup x.1 = some (.ref x.2.1) ∧ ¬ W.S x.2.1 ∧ ∃ o vs, (upd H p (.ins C dx (putF f v gs))) x.2.1 = some (.frz o (.lst vs)) ∧ RepL M W (upd H p (.ins C dx (putF f v gs))) x.2.2 vs := by
  refine ⟨RepF.pl k hfs (fun x hx => by rw [lookup_putF, if_neg (hf x hx)]) h6, fun x hx => ?_⟩
  obtain ⟨a1, a2, o, vs, a3, a4⟩ := h7 x hx
  exact ⟨by rw [lookup_putF, if_neg (hl x hx)]; exact a1, a2, o, vs, by rw [upd_ne (hq x hx)]; exact a3, RepL.pl k _ _ (List.all_eq_true.mp hls x hx) a4⟩
theorem onlyTab_put {gs : List (Str × V)} {f : Str} {v : V} (h : OnlyTab gs) (hf : f ∈ tabFields) : OnlyTab (putF f v gs) := fun g hg => by
  rw [lookup_putF, if_neg (fun e => hg (by rw [e]; exact hf))]
  exact h g hg
theorem keep_ins {H : Hp} {p C dx : Addr} {gs gs' : List (Str × V)} (h : H p = some (.ins C dx gs)) : KeepPl H (upd H p (.ins C dx gs')) := fun a o e hk => by
  rw [upd_ne fun z => by rw [z, h] at e; cases e; exact hk]
  exact e
theorem keep_frz {H : Hp} {q : Addr} {o : Obj} {vs : List V} {u : HO} (h : H q = some (.frz o (.lst vs))) : KeepPl H (upd H q u) := fun a o' e hk => by
  rw [upd_ne fun z => by rw [z, h] at e; cases e; exact hk]
  exact e
section
variable {X : Cx} {W : Wd} {H0 : Hp} {r : List Slot} {K : D → Prop} {rest : List Stmt} {E : Ends} {e : Expr} {pos pos' apos cpos : Pos} {f : Str} {p dx C : Addr} {fs : List (Str × D)} {ls : List (Str × Addr × List D)}
theorem At.self0 {M : MW} {σ : L2.St} {H : Hp} {own : Nat → Option Addr} (a : AtO M W H0 (.selfS p dx C fs ls :: r) σ H own) : SlotOk M (W.adds (OwnS own)) H Option.none (.selfS p dx C fs ls) σ[0]? ∧ own 0 = Option.none := by
  have h := a.sl 0 _ rfl
  exact ⟨by have h1 := h.1; rw [h1] at h; exact h, h.1⟩
/-- self.f = e, a datum -/
theorem hs_fset {oe : Expr} (he : PE X e (tN (pw X) (vis (.selfS p dx C fs ls :: r)) K)) (ho : PE X oe (tVar 0)) (c : Cls X.K C) (nf : NoAttr X.K C f) (ht : f ∈ tabFields) (B : Base X H0 p dx ls) (hfs : plF fs = true) (hls : ls.all (fun x => isPls x.2.2) = true) (hp : r.all plS = true) (hf : ∀ x ∈ fs, x.1 ≠ f) (hl : ∀ x ∈ ls, x.1 ≠ f) (hn : fs.length + ls.length < 900)
    (hk : ∀ d, K d → isPl d = true) (k : ∀ d, K d → Hs X rest (At (pw X) W H0 (.selfS p dx C ((f, d) :: fs) ls :: r)) E) (hs : swapsWith e (some (.Attribute oe f pos')) pos.line X.env = pure false := by rfl) :
    Hs X (.Assign [.Attribute oe f pos'] e pos :: rest) (At (pw X) W H0 (.selfS p dx C fs ls :: r)) E := by
  refine hs_cons (M := fun σ H => ∃ d : { d // K d }, At (pw X) W H0 (.selfS p dx C ((f, d.1) :: fs) ls :: r) σ H) (ps_fld ho he hs) (fun σ H a => ?_) (hs_ex fun d => k d.1 d.2)
  refine a.tN fun own v H2 d a2 kd rv => ?_
  obtain ⟨⟨h1, h2, np, gs, h3, h4, h5, h6, h7⟩, h0⟩ := At.self0 a2
  refine ⟨.ref p, h2, p, C, dx, gs, rfl, h3, c, nf, by omega, ⟨d, kd⟩, own, ?_⟩
  have kp : KeepPl H2 (upd H2 p (.ins C dx (putF f v gs))) := keep_ins h3
  obtain ⟨b6, b7⟩ := self_put (W' := W) hfs hls hf hl (fun x hx => (B.q0 x hx).2.2) h6 h7 kp
  refine a2.self h0 hp kp (a2.ext.mut B.p0) ⟨rfl, h2, np, _, upd_same, onlyTab_put h4 ht, ?_, ⟨⟨v, by rw [lookup_putF, if_pos rfl], Rep.pl kp d v (hk d kd) rv⟩, b6⟩, b7⟩
  have := length_putF f v gs
  simp only [List.length_cons]
  omega
/-- self.f = a new list, from now on the table's own -/
theorem hs_fsetL {oe : Expr} {Ks : List D → Prop} (he : PE X e (tF (pw X) (vis (.selfS p dx C fs ls :: r)) Ks)) (ho : PE X oe (tVar 0)) (c : Cls X.K C) (nf : NoAttr X.K C f) (ht : f ∈ tabFields) (B : Base X H0 p dx ls) (hfs : plF fs = true) (hls : ls.all (fun x => isPls x.2.2) = true) (hp : r.all plS = true) (hf : ∀ x ∈ fs, x.1 ≠ f) (hl : ∀ x ∈ ls, x.1 ≠ f) (hn : fs.length + ls.length < 900)
    (hk : ∀ ds, Ks ds → isPls ds = true) (k : ∀ q ds, Ks ds → Base X H0 p dx ((f, q, ds) :: ls) → Hs X rest (At (pw X) W H0 (.selfS p dx C fs ((f, q, ds) :: ls) :: r)) E) (hs : swapsWith e (some (.Attribute oe f pos')) pos.line X.env = pure false := by rfl) :
    Hs X (.Assign [.Attribute oe f pos'] e pos :: rest) (At (pw X) W H0 (.selfS p dx C fs ls :: r)) E := by
  refine ⟨fun pins s σ H I a => ?_⟩
  refine wpAny_execs_cons ?_
  refine plainObj_wpAny_Assign_Attribute ?_ hs
  obtain ⟨own, a⟩ := a
  have run := he.run pins s σ H (fun v H2 => ∃ q vs ds, v = .ref q ∧ Ks ds ∧ H q = Option.none ∧ Ext W H H2 ∧ H2 q = some (.lst vs) ∧ RepL (pw X) ((W.adds (OwnS own)).add q) H2 ds vs) I ⟨W.adds (OwnS own), a.slots, a.ok', fun q vs H2 ds ks hq e1 h2 rs => ⟨q, vs, ds, rfl, ks, hq, Ext.adds.mp e1, h2, rs⟩⟩
  refine thn run fun u s1 ⟨x, H1, I1, ru, q, vs, ds, ex, ks, hq, e1, hq1, rs⟩ => ?_
  subst ex
  obtain rfl : u = Value.ref q := ru
  have a1 := a.go e1
  obtain ⟨⟨h1, h2, np, gs, h3, h4, h5, h6, h7⟩, h0⟩ := At.self0 a1
  have hqp : q ≠ p := fun z => by rw [z, h3] at hq1; cases hq1
  have hqd : q ≠ dx := fun z => by
    have g := I1.hok p _ h3
    have g1 : H1 dx = some (.own p) := g.1
    rw [← z, hq1] at g1; cases g1
  have nl : ∀ x ∈ ls, x.2.1 ≠ q := fun x hx z => by
    obtain ⟨_, _, o, ws, b3, _⟩ := h7 x hx
    rw [z, hq1] at b3; cases b3
  have hq0 : H0 q = Option.none := a.ext.free a.ok hq
  have hX : X.H_0 q = Option.none := by
    cases z : X.H_0 q with
    | none => rfl
    | some o =>
      exfalso
      rcases B.h0 q o z with w | w | ⟨o', w⟩
      · exact hqp w
      · exact hqd w
      · rw [hq0] at w; cases w
  have nown : ∀ {j : Nat} {b : Addr}, own j = some b → b ≠ q := fun {j b} h z => by
    obtain ⟨o, g⟩ := a.tr h
    rw [z, hq] at g; cases g
  -- the list is locked, then stored
  obtain ⟨od, I2⟩ := I1.lock hq1 trivial
  have cH : Car (W.adds (OwnS own)) (W.adds (OwnS own)) H (upd H1 q (.frz od (.lst vs))) := ⟨fun b o n h => ⟨by rw [upd_ne (ne_of_none h hq)]; exact e1.keep b o (fun t => n (.inl (a.okW.sub b t))) h, n⟩, fun _ t => t⟩
  have a2 : AtO (pw X) W H0 (.selfS p dx C fs ls :: r) σ (upd H1 q (.frz od (.lst vs))) own := ⟨a.ok, a1.ext.mut hq0, a.len, a.inj, a.fresh, a.bnd, fun i s h => (a.sl i s h).car cH fun b o z h => by
    rw [upd_ne (nown z)]
    exact e1.keep b o (a.nT z) h⟩
  have cw : Car ((W.adds (OwnS own)).add q) (W.adds (OwnS own)) H1 (upd H1 q (.frz od (.lst vs))) := ⟨fun b o n h => ⟨by rw [upd_ne fun z => n (.inr z)]; exact h, fun z => n (.inl z)⟩, fun _ t => t⟩
  have rs2 := RepL.car cw ds vs rs
  have hq2 : (upd H1 q (.frz od (.lst vs))) q = some (.frz od (.lst vs)) := upd_same
  generalize (upd H1 q (.frz od (.lst vs))) = H2 at I2 a2 rs2 hq2
  obtain ⟨⟨g1, g2, np2, gs2, g3, g4, g5, g6, g7⟩, _⟩ := At.self0 a2
  refine wpAny_mono (ho.run pins s1 σ H2 (fun v H3 => v = .ref p ∧ H3 = H2) I2 ⟨.ref p, g2, rfl, rfl⟩) (fun ov s3 ⟨x, H3, I3, rx, ex, eH⟩ => ?_) fun _ _ x => x
  rw [ex] at rx
  rw [eH] at I3
  obtain rfl : ov = Value.ref p := rx
  have hl2 : gs2.length < 1000 := by omega
  refine setattr_ok (y := .ref q) I3 g3 c nf hl2 rfl fun s4 I4 => ?_
  have kp : KeepPl H2 (upd H2 p (.ins C dx (putF f (.ref q) gs2))) := keep_ins g3
  obtain ⟨b6, b7⟩ := self_put (W := W.adds (OwnS own)) (W' := W) (v := .ref q) hfs hls hf hl (fun x hx => (B.q0 x hx).2.2) g6 g7 kp
  have nSq : ¬ (W.adds (OwnS own)).S q := a.ok'.nS hq
  have fin : At (pw X) W H0 (.selfS p dx C fs ((f, q, ds) :: ls) :: r) σ (upd H2 p (.ins C dx (putF f (.ref q) gs2))) := by
    refine ⟨own, a2.self h0 hp kp (a2.ext.mut B.p0) ⟨rfl, g2, np2, _, upd_same, onlyTab_put g4 ht, ?_, b6, fun x hx => ?_⟩⟩
    · have := length_putF f (.ref q) gs2
      simp only [List.length_cons]
      omega
    · rcases List.mem_cons.mp hx with z | z
      · subst z
        exact ⟨by rw [lookup_putF, if_pos rfl], nSq, od, vs, by rw [upd_ne hqp]; exact hq2, RepL.pl kp ds vs (hk ds ks) rs2⟩
      · exact b7 x z
  have B' : Base X H0 p dx ((f, q, ds) :: ls) := ⟨B.p0, fun x hx => by
    rcases List.mem_cons.mp hx with z | z
    · subst z; exact ⟨hq0, hX, hqp⟩
    · exact B.q0 x z, by
    rw [List.map_cons, List.nodup_cons]
    refine ⟨fun m => ?_, B.nd⟩
    obtain ⟨x, hx, e⟩ := List.mem_map.mp m
    exact nl x hx e, B.h0⟩
  exact (k q ds ks B').run pins s4 σ _ I4 fin
end
/-! ### a table's own lists, changed in place -/
def setQ (q : Addr) (ds : List D) (ls : List (Str × Addr × List D)) : List (Str × Addr × List D) := ls.map fun x => if x.2.1 = q then (x.1, x.2.1, ds) else x
theorem mem_setQ {q : Addr} {ds : List D} {ls : List (Str × Addr × List D)} {x : Str × Addr × List D} (h : x ∈ setQ q ds ls) : ∃ y ∈ ls, x.1 = y.1 ∧ x.2.1 = y.2.1 ∧ ((y.2.1 = q ∧ x.2.2 = ds) ∨ (y.2.1 ≠ q ∧ x = y)) := by
  unfold setQ at h
  obtain ⟨y, hy, e⟩ := List.mem_map.mp h
  by_cases z : y.2.1 = q
  · rw [if_pos z] at e; subst e; exact ⟨y, hy, rfl, rfl, .inl ⟨z, rfl⟩⟩
  · rw [if_neg z] at e; subst e; exact ⟨y, hy, rfl, rfl, .inr ⟨z, rfl⟩⟩
section
variable {X : Cx} {M : MW} {W : Wd} {H0 H : Hp} {r : List Slot} {K : D → Prop} {rest : List Stmt} {E : Ends} {e : Expr} {pos pos' apos cpos p1 : Pos} {f : Str} {p dx C q : Addr} {fs : List (Str × D)} {ls : List (Str × Addr × List D)} {ds ds' : List D} {σ : L2.St} {own : Nat → Option Addr}
theorem Base.setQ (B : Base X H0 p dx ls) (q : Addr) (ds : List D) : Base X H0 p dx (PD.setQ q ds ls) := ⟨B.p0, fun x hx => by
    obtain ⟨y, hy, _, e2, _⟩ := mem_setQ hx
    rw [e2]; exact B.q0 y hy, by
    have : (PD.setQ q ds ls).map (fun x => x.2.1) = ls.map fun x => x.2.1 := by
      unfold PD.setQ
      rw [List.map_map]
      refine List.map_congr_left fun x _ => ?_
      show (if x.2.1 = q then (x.1, x.2.1, ds) else x).2.1 = x.2.1
      split <;> rfl
    rw [this]; exact B.nd, B.h0⟩
theorem AtO.flist {od' : Obj} {vs' : List V} (a : AtO M W H0 (.selfS p dx C fs ls :: r) σ H own) (B : Base X H0 p dx ls) (hx : (f, q, ds) ∈ ls) (hfs : plF fs = true) (hls : ls.all (fun x => isPls x.2.2) = true) (hp : r.all plS = true) (hpl : isPls ds' = true) (rs : RepL M (W.adds (OwnS own)) H ds' vs') :
    AtO M W H0 (.selfS p dx C fs (setQ q ds' ls) :: r) σ (L2.upd H q (.frz od' (.lst vs'))) own := by
  obtain ⟨⟨h1, h2, np, gs, h3, h4, h5, h6, h7⟩, h0⟩ := At.self0 a
  obtain ⟨q1, nq, o, vs, q3, q4⟩ := h7 _ hx
  have kp : KeepPl H (L2.upd H q (.frz od' (.lst vs'))) := keep_frz q3
  have hqp := (B.q0 _ hx).2.2
  refine a.self h0 hp kp (a.ext.mut (B.q0 _ hx).1) ⟨rfl, h2, np, gs, by rw [upd_ne (Ne.symm hqp)]; exact h3, h4, by unfold setQ; rw [List.length_map]; exact h5, RepF.pl kp hfs (fun _ _ => rfl) h6, fun x hx' => ?_⟩
  obtain ⟨y, hy, e1, e2, e3⟩ := mem_setQ hx'
  obtain ⟨b1, b2, o2, ws, b3, b4⟩ := h7 y hy
  rw [e1, e2]
  refine ⟨b1, b2, ?_⟩
  rcases e3 with ⟨z, e3⟩ | ⟨z, e3⟩
  · rw [e3, z]
    exact ⟨od', vs', upd_same, RepL.pl kp ds' vs' hpl rs⟩
  · subst e3
    exact ⟨o2, ws, by rw [upd_ne z]; exact b3, RepL.pl kp _ _ (List.all_eq_true.mp hls x hy) b4⟩
/-- the list that the field names -/
theorem AtO.flistAt (a : AtO M W H0 (.selfS p dx C fs ls :: r) σ H own) (hx : (f, q, ds) ∈ ls) : ∃ gs o vs, H p = some (.ins C dx gs) ∧ gs.lookup f = some (.ref q) ∧ H q = some (.frz o (.lst vs)) ∧ RepL M (W.adds (OwnS own)) H ds vs ∧ σ[0]? = some (some (.ref p)) := by
  obtain ⟨⟨h1, h2, np, gs, h3, h4, h5, h6, h7⟩, h0⟩ := At.self0 a
  obtain ⟨q1, nq, o, vs, q3, q4⟩ := h7 _ hx
  exact ⟨gs, o, vs, h3, q1, q3, q4, h2⟩
/-- self.f as the address of the table's own list -/
theorem pe_fq {oe : Expr} (ho : PE X oe (tVar 0)) (c : Cls X.K C) (nf : NoAttr X.K C f) (hb : attributeBase oe f X.env (eval oe X.env) = eval oe X.env := by rfl) :
    PE X (.Attribute oe f p1) (fun σ H Q => ∃ p dx gs q, σ[0]? = some (some (.ref p)) ∧ H p = some (.ins C dx gs) ∧ gs.lookup f = some (.ref q) ∧ Q (.ref q) H) :=
  (pe_fld ho hb).wk fun σ H Q ⟨p, dx, gs, q, h1, h2, h3, h4⟩ => ⟨.ref p, h1, p, C, dx, gs, .ref q, rfl, h2, c, nf, h3, h4⟩
/-- a method of lists, of a list that is locked -/
theorem mtF {id : String} {r : V → List V → Hp → VK → Prop} (h : MtR X id r) : MtR X id (fun x xs H Q => ∃ l od u, x = .ref l ∧ H l = some (.frz od u) ∧ (∀ o' u', X.H_0 l ≠ some (.frz o' u')) ∧ r x xs (upd H l u) (fun v H2 => ∃ u', H2 l = some u' ∧ Mut (some u') ∧ ∀ od', Q v (upd H2 l (.frz od' u')))) := by
  intro pins s σ H x xs v us Q I rx rs q
  obtain ⟨l, od, u, ex, hl, hn, q⟩ := q
  have I1 := I.unlock hl hn
  refine thn (h pins s σ _ x xs v us _ I1 rx rs q) fun w s1 ⟨y, H1, I2, ry, u', hu, mu, q'⟩ => ?_
  obtain ⟨od', I3⟩ := I2.lock hu mu
  exact ⟨y, _, I3, ry, q' od'⟩
/-- self.f.append(e) -/
theorem hs_fapp {oe : Expr} (he : PE X e (tN (pw X) (vis (.selfS p dx C fs ls :: r)) K)) (ho : PE X oe (tVar 0)) (c : Cls X.K C) (nf : NoAttr X.K C f) (B : Base X H0 p dx ls) (hx : (f, q, ds) ∈ ls) (hfs : plF fs = true) (hls : ls.all (fun x => isPls x.2.2) = true) (hp : r.all plS = true) (hl : ds.length < sizeLine)
    (hk : ∀ d, K d → isPl d = true) (k : ∀ d, K d → Hs X rest (At (pw X) W H0 (.selfS p dx C fs (setQ q (ds ++ [d]) ls) :: r)) E)
    (hs : swapsWith (.Call (.Attribute (.Attribute oe f p1) "append" apos) [e] [] cpos) none pos.line X.env = pure false := by rfl) (hb : attributeBase oe f X.env (eval oe X.env) = eval oe X.env := by rfl) (hb2 : attributeBase (.Attribute oe f p1) "append" X.env (eval (.Attribute oe f p1) X.env) = eval (.Attribute oe f p1) X.env := by rfl)
    (hfew : ((backTo cpos (starEach [e] X.env)).all (fun x => !x.1) && (backToKw cpos (keywordEach [] X.env)).all (fun x => x.1.isSome) && decide (([e] : List Expr).length + ([] : List Keyword).length + (if ([] : List Keyword).isEmpty then 0 else 1) < 30)) = true := by rfl)
    (hline : (apos.endLine == cpos.line) = true := by rfl) (hst : starEach [e] X.env = (false, eval e X.env) :: starEach [] X.env := by rfl) (hpl : (backTo cpos (starEach [] X.env)).any (·.1) = false := by rfl) :
    Hs X (.Expr (.Call (.Attribute (.Attribute oe f p1) "append" apos) [e] [] cpos) pos :: rest) (At (pw X) W H0 (.selfS p dx C fs ls :: r)) E := by
  refine hs_cons (M := fun σ H => ∃ d : { d // K d }, At (pw X) W H0 (.selfS p dx C fs (setQ q (ds ++ [d.1]) ls) :: r) σ H) (ps_expr (pe_bm PySem.F.plainAttrs_list PySem.F.slot_list_append PySem.type_list_append (mtF fun pins s σ H x xs v us Q I rx rs q => mt_append pins s σ H x xs v us Q I rx rs q) (pe_fq ho c nf hb) (pa_cons he pa_nil hst) hb2 hfew hline hst hpl) hs) (fun σ H a => ?_) (hs_ex fun d => k d.1 d.2)
  obtain ⟨own, a⟩ := a
  obtain ⟨gs, o, vs, g1, g2, g3, g4, g5⟩ := a.flistAt hx
  refine ⟨p, dx, gs, q, g5, g1, g2, .inl ⟨rfl, vs, .inl (.inr ⟨o, g3⟩)⟩, W.adds (OwnS own), a.slots, a.ok', fun v H2 d kd e1 rv => ?_⟩
  have a2 := a.go (Ext.adds.mp e1)
  obtain ⟨gs2, o2, vs2, k1, k2, k3, k4, k5⟩ := a2.flistAt hx
  refine ⟨q, o2, .lst vs2, rfl, k3, (fun o' u' z => by rw [(B.q0 _ hx).2.1] at z; cases z), q, vs2, v, rfl, rfl, upd_same, by rw [k4.length]; exact hl, .lst (vs2 ++ [v]), upd_same, trivial, fun od' => ?_⟩
  rw [upd_upd, upd_upd]
  refine ⟨⟨d, kd⟩, own, a2.flist B hx hfs hls hp ?_ (k4.append (.one rv))⟩
  have hds : isPls ds = true := List.all_eq_true.mp hls _ hx
  have : ∀ l : List D, isPls l = true → isPls (l ++ [d]) = true := fun l => by
    induction l with
    | nil => intro _; show isPls [d] = true; unfold isPls isPls; rw [hk d kd]; rfl
    | cons b l ih =>
      intro h
      unfold isPls at h
      rw [Bool.and_eq_true] at h
      show isPls (b :: (l ++ [d])) = true
      unfold isPls
      rw [h.1, ih h.2]; rfl
  exact this ds hds
/-- self.f.reverse() -/
theorem isPls_rev : ∀ {l : List D}, isPls l = l.all isPl
  | [] => rfl
  | d :: l => by rw [isPls, List.all_cons, isPls_rev]
theorem hs_frev {oe : Expr} (ho : PE X oe (tVar 0)) (c : Cls X.K C) (nf : NoAttr X.K C f) (B : Base X H0 p dx ls) (hx : (f, q, ds) ∈ ls) (hfs : plF fs = true) (hls : ls.all (fun x => isPls x.2.2) = true) (hp : r.all plS = true)
    (k : Hs X rest (At (pw X) W H0 (.selfS p dx C fs (setQ q ds.reverse ls) :: r)) E)
    (hs : swapsWith (.Call (.Attribute (.Attribute oe f p1) "reverse" apos) [] [] cpos) none pos.line X.env = pure false := by rfl) (hb : attributeBase oe f X.env (eval oe X.env) = eval oe X.env := by rfl) (hb2 : attributeBase (.Attribute oe f p1) "reverse" X.env (eval (.Attribute oe f p1) X.env) = eval (.Attribute oe f p1) X.env := by rfl)
    (hline : (apos.endLine == cpos.line) = true := by rfl) :
    Hs X (.Expr (.Call (.Attribute (.Attribute oe f p1) "reverse" apos) [] [] cpos) pos :: rest) (At (pw X) W H0 (.selfS p dx C fs ls :: r)) E := by
  refine hs_cons (M := At (pw X) W H0 (.selfS p dx C fs (setQ q ds.reverse ls) :: r)) (ps_expr (pe_bm0 PySem.F.plainAttrs_list PySem.F.slot_list_reverse PySem.F.type_list_reverse (mtF fun pins s σ H x xs v us Q I rx rs q => mt_reverse pins s σ H x xs v us Q I rx rs q) (pe_fq ho c nf hb) hb2 hline) hs) (fun σ H a => ?_) k
  obtain ⟨own, a⟩ := a
  obtain ⟨gs, o, vs, g1, g2, g3, g4, g5⟩ := a.flistAt hx
  refine ⟨p, dx, gs, q, g5, g1, g2, .inl ⟨rfl, vs, .inl (.inr ⟨o, g3⟩)⟩, q, o, .lst vs, rfl, g3, (fun o' u' z => by rw [(B.q0 _ hx).2.1] at z; cases z), q, vs, rfl, rfl, upd_same, .lst vs.reverse, upd_same, trivial, fun od' => ?_⟩
  rw [upd_upd, upd_upd]
  refine ⟨own, a.flist B hx hfs hls hp ?_ g4.reverse⟩
  have hds : isPls ds = true := List.all_eq_true.mp hls _ hx
  rw [isPls_rev] at hds ⊢
  rw [List.all_reverse]; exact hds
/-- self.f[i] = e -/
theorem hs_fix {oe ie : Expr} {i : Int} {j : Nat} (he : PE X e (tN (pw X) (vis (.selfS p dx C fs ls :: r)) K)) (ho : PE X oe (tVar 0)) (hi : PE X ie (tC (.int i))) (hj : ixN ds.length i = some j) (c : Cls X.K C) (nf : NoAttr X.K C f) (B : Base X H0 p dx ls) (hx : (f, q, ds) ∈ ls) (hfs : plF fs = true) (hls : ls.all (fun x => isPls x.2.2) = true) (hp : r.all plS = true)
    (hk : ∀ d, K d → isPl d = true) (k : ∀ d, K d → Hs X rest (At (pw X) W H0 (.selfS p dx C fs (setQ q (ds.set j d) ls) :: r)) E)
    (hs : swapsWith e (some (.Subscript (.Attribute oe f p1) ie pos')) pos.line X.env = pure false := by rfl) (hb : attributeBase oe f X.env (eval oe X.env) = eval oe X.env := by rfl) :
    Hs X (.Assign [.Subscript (.Attribute oe f p1) ie pos'] e pos :: rest) (At (pw X) W H0 (.selfS p dx C fs ls :: r)) E := by
  refine ⟨fun pins s σ H I a => ?_⟩
  refine wpAny_execs_cons ?_
  obtain ⟨own, a⟩ := a
  refine wpAny_Assign_Subscript ?_ hs
  have run := he.run pins s σ H (fun v H2 => ∃ d, K d ∧ Ext W H H2 ∧ Rep (pw X) (W.adds (OwnS own)) H2 d v) I ⟨W.adds (OwnS own), a.slots, a.ok', fun v H2 d kd e1 rv => ⟨d, kd, Ext.adds.mp e1, rv⟩⟩
  refine thn run fun u s1 ⟨v, H1, I1, ru, d, kd, e1, rv⟩ => ?_
  have a1 := a.go e1
  obtain ⟨gs, o, vs, g1, g2, g3, g4, g5⟩ := a1.flistAt hx
  refine thn ((pe_fq (p1 := p1) ho c nf hb).run pins s1 σ H1 (fun w H2 => w = .ref q ∧ H2 = H1) I1 ⟨p, dx, gs, q, g5, g1, g2, rfl, rfl⟩) fun w s2 ⟨x, H2, I2, rx, ex, eH⟩ => ?_
  rw [ex] at rx
  rw [eH] at I2
  obtain rfl : w = Value.ref q := rx
  refine thn (hi.run pins s2 σ H1 (fun w H2 => w = .int i ∧ H2 = H1) I2 ⟨rfl, rfl⟩) fun w s3 ⟨x, H3, I3, rx, ex, eH⟩ => ?_
  rw [ex] at rx
  rw [eH] at I3
  have I4 := I3.unlock g3 fun o' u' z => by rw [(B.q0 _ hx).2.1] at z; cases z
  refine wpAny_mono (set_list pins s3 σ (upd H1 q (.lst vs)) (.ref q) (.int i) v (.ref q) w u (fun H5 => H5 = upd (upd H1 q (.lst vs)) q (.lst (vs.set j v))) I4 rfl rx ru ⟨q, vs, i, j, rfl, rfl, upd_same, by rw [g4.length]; exact hj, rfl⟩) (fun _ s5 ⟨H5, I5, eH5⟩ => ?_) fun _ _ x => x
  rw [eH5, upd_upd] at I5
  obtain ⟨od', I6⟩ := I5.lock (d := q) (u := .lst (vs.set j v)) upd_same trivial
  rw [upd_upd] at I6
  refine (k d kd).run pins s5 σ _ I6 ⟨own, a1.flist B hx hfs hls hp ?_ (g4.set rv j)⟩
  have hds : isPls ds = true := List.all_eq_true.mp hls _ hx
  rw [isPls_rev] at hds ⊢
  exact List.all_eq_true.mpr fun y hy => by
    rcases List.mem_or_eq_of_mem_set hy with z | z
    · exact List.all_eq_true.mp hds y z
    · rw [z]; exact hk d kd
end
end PD

set_option Elab.async false
set_option linter.all false
set_option maxRecDepth 100000
set_option maxHeartbeats 2000000
/-! Pd19: loops beside a table in the making; lists and dicts read while they are built; while. -/
namespace PD
open PySem L2 PySem.Spec PyProof.Rows
section
variable {X : Cx} {M : MW} {W : Wd} {H0 H : Hp} {r : List Slot} {K : D → Prop} {rest : List Stmt} {E : Ends} {e : Expr} {pos pos' : Pos} {σ : L2.St} {own : Nat → Option Addr}
noncomputable def cutO (O : Addr → Prop) (L : Hp) : Hp := by classical exact fun a => if O a then none else L a
theorem cutO_yes {O : Addr → Prop} {L : Hp} {a : Addr} (h : O a) : cutO O L a = none := by unfold cutO; exact if_pos h
theorem cutO_no {O : Addr → Prop} {L : Hp} {a : Addr} (h : ¬ O a) : cutO O L a = L a := by unfold cutO; exact if_neg h
theorem cutO_of {O : Addr → Prop} {L : Hp} {a : Addr} {o : HO} (h : cutO O L a = some o) : ¬ O a ∧ L a = some o := by
  by_cases q : O a
  · rw [cutO_yes q] at h; cases h
  · rw [cutO_no q] at h; exact ⟨q, h⟩
/-- what is known of the base inside a loop -/
structure LoopB (H0 L : Hp) (O : Addr → Prop) : Prop where
  off : ∀ a, O a → L a = none
  on : ∀ a o, H0 a = some o → ∃ o', L a = some o'
/-- for, beside things (O) that the body changes in place -/
theorem hs_forG {tg iter : Expr} {body : List Stmt} {g : TG} {ti : TI} {Ki : List D → Prop} {K' : D → Prop} (O : Addr → Prop) (Ri : List D → Nat → List Slot → Prop) (hc : X.calm = true) (hp : PassesOwn (model X.prog X.w) X.A X.env X.xe) (hi : PI X tg iter ti) (hg : PG X tg g) (hO : ∀ a, O a → H0 a = none)
    (hti : ∀ σ H own R, AtO (pw X) W H0 r σ H own → (∀ J H1 ds, Ki ds → Ext W H H1 → ItD (pw X) ((W.adds (OwnS own)).adds O) H1 J ds → R J H1) → ti σ H R)
    (h0 : ∀ ds, Ki ds → Ri ds 0 r) (u : D → List (Nat × D)) (gd : ∀ ds d, Ki ds → d ∈ ds → GD (pw X) g d (u d))
    (hb : ∀ L ds i d r', LoopB H0 L O → Ki ds → ds[i]? = some d → Ri ds i r' → Hs X body (At (pw X) W L (setsS (u d) r')) { nx := fun σ H => ∃ r', Ri ds (i + 1) r' ∧ At (pw X) W L r' σ H, ct := fun σ H => ∃ r', Ri ds (i + 1) r' ∧ At (pw X) W L r' σ H, rt := Rt (pw X) W L K' })
    (hrt : ∀ v H, Rt (pw X) W H0 K' v H → E.rt v H) (k : ∀ ds r', Ki ds → Ri ds ds.length r' → Hs X rest (At (pw X) W H0 r') E)
    (hs : ∀ x, foldedSetIterable iter X.env x = pure x := by intro _; rfl) : Hs X (.For tg iter body [] pos :: rest) (At (pw X) W H0 r) E := by
  refine hs_cons (M := fun σ H => ∃ z : { z : List D × List Slot // Ki z.1 ∧ Ri z.1 z.1.length z.2 }, At (pw X) W H0 z.1.2 σ H) (ps_for hp hc hi hg
    (pss_hs (ι := { z : Hp × List D × Nat × D × List Slot // LoopB H0 z.1 O ∧ Ki z.2.1 ∧ z.2.1[z.2.2.1]? = some z.2.2.2.1 ∧ Ri z.2.1 z.2.2.1 z.2.2.2.2 })
      (P := fun z => At (pw X) W z.1.1 (setsS (u z.1.2.2.2.1) z.1.2.2.2.2)) (E := fun z => { nx := fun σ H => ∃ r', Ri z.1.2.1 (z.1.2.2.1 + 1) r' ∧ At (pw X) W z.1.1 r' σ H, ct := fun σ H => ∃ r', Ri z.1.2.1 (z.1.2.2.1 + 1) r' ∧ At (pw X) W z.1.1 r' σ H, rt := Rt (pw X) W z.1.1 K' })
      fun z => hb z.1.1 z.1.2.1 z.1.2.2.1 z.1.2.2.2.1 z.1.2.2.2.2 z.2.1 z.2.2.1 z.2.2.2.1 z.2.2.2.2) hs) (fun σ H a => ?_) (hs_ex (ι := { z : List D × List Slot // Ki z.1 ∧ Ri z.1 z.1.length z.2 }) (P := fun z => At (pw X) W H0 z.1.2) fun z => k z.1.1 z.1.2 z.2.1 z.2.2)
  obtain ⟨own, a⟩ := a
  refine hti σ H own _ a fun J H1 ds kd e1 it => ?_
  have a1 := a.go e1
  have ok0 := a1.ok
  have e0L := a1.ext0
  have upL := a1.up
  generalize hL0 : lessO H1 own r.length = L0 at e0L upL
  have hLB : LoopB H0 (cutO O L0) O := ⟨fun b o => cutO_yes o, fun b o h => by
    have nb : ¬ O b := fun z => by rw [hO b z] at h; cases h
    rw [cutO_no nb]
    exact e0L.tr ok0 (a := b) ⟨o, h⟩ |> fun z => z⟩
  have e01 : Ext W H0 (cutO O L0) := ⟨fun b o n h => by
    rw [cutO_no fun z => by rw [hO b z] at h; cases h]
    exact e0L.keep b o n h, fun b t s => by
    obtain ⟨x, y, n, hs⟩ := id s
    obtain ⟨x', y', n', q⟩ := e0L.src b t s
    exact ⟨x', y', n', by rw [cutO_no fun z => by rw [hO b z] at hs; cases hs]; exact q⟩⟩
  generalize hL : cutO O L0 = L at e01 hLB
  have okL : W.ok L := ok0.ext e01
  have aL : At (pw X) W L r σ H1 := ⟨own, okL, .same fun b o h => by
    rw [← hL] at h
    obtain ⟨_, h⟩ := cutO_of h
    rw [← hL0] at h
    exact (lessO_of h).1, a1.len, a1.inj, fun i b z => by
    rw [← hL]
    by_cases q : O b
    · exact cutO_yes q
    · rw [cutO_no q]; exact upL.fresh i b z, a1.bnd, a1.sl⟩
  have stay : ∀ {r' : List Slot} {σ' : L2.St} {H' : Hp} {own' : Nat → Option Addr}, AtO (pw X) W L r' σ' H' own' → Stay ((W.adds (OwnS own)).adds O) (W.adds (OwnS own')) H1 H' := fun {r' σ' H' own'} a' => by
    refine ⟨⟨fun b o n h => ?_, fun _ t => t⟩, a'.ok'.tr⟩
    have nO : ∀ i, i < r.length → own i ≠ some b := fun i _ e => n (.inl (.inr ⟨i, e⟩))
    have hl : L b = some o := by rw [← hL, cutO_no fun z => n (.inr z), ← hL0, lessO_keep nO]; exact h
    refine ⟨a'.ext.keep b o (fun t => n (.inl (.inl (ok0.sub b t)))) hl, fun z => ?_⟩
    rcases z with z | ⟨j, z⟩
    · exact n (.inl (.inl z))
    · rw [a'.fresh j b z] at hl; cases hl
  refine ⟨fun i m σ H => m = ds.length - i ∧ i ≤ ds.length ∧ ∃ r', Ri ds i r' ∧ At (pw X) W L r' σ H, ⟨ds.length, by simp, Nat.zero_le _, r, h0 ds kd, aL⟩, ?_⟩
  rintro i m σ2 H2 ⟨rfl, hle, r', hR, own', a'⟩
  by_cases hlt : i < ds.length
  · refine .inr ⟨it.go _ i H2 (stay a') hlt, fun σ H => ∃ r', Ri ds (i + 1) r' ∧ At (pw X) W L r' σ H, fun σ' H' ⟨r2, h1, h2⟩ => ⟨ds.length - (i + 1), by omega, rfl, hlt, r2, h1, h2⟩, fun x H3 y => ?_⟩
    obtain ⟨sm, d, hd, rx⟩ := it.yld _ i H2 x H3 (stay a') hlt y
    have a3 := a'.go (.same sm)
    refine gd ds d kd (List.mem_of_getElem? hd) (W.adds (OwnS own')) σ2 H3 x _ rx fun σ3 s3 => ?_
    exact ⟨⟨(L, ds, i, d, r'), hLB, kd, hd, hR⟩, At.sets a3 s3, ⟨fun _ _ h => h, fun v H h => hrt v H (let ⟨d, h1, h2, h3⟩ := h; ⟨d, h1, e01.trans h2, h3⟩), fun _ _ h => h.elim, fun _ _ h => h⟩⟩
  · have e : i = ds.length := by omega
    subst e
    exact .inl ⟨it.stop _ H2 (stay a'), ⟨(ds, r'), kd, hR⟩, At.base ⟨own', a'⟩ ok0 e01⟩
theorem Base.loop {p dx : Addr} {ls : List (Str × Addr × List D)} {L : Hp} {O : Addr → Prop} (B : Base X H0 p dx ls) (b : LoopB H0 L O) (hO : ∀ a, O a ↔ a = p ∨ ∃ x ∈ ls, a = x.2.1) : Base X L p dx ls :=
  ⟨b.off p ((hO p).mpr (.inl rfl)), fun x hx => ⟨b.off _ ((hO _).mpr (.inr ⟨x, hx, rfl⟩)), (B.q0 x hx).2⟩, B.nd, fun a o h => by
    rcases B.h0 a o h with z | z | ⟨o', z⟩
    · exact .inl z
    · exact .inr (.inl z)
    · exact .inr (.inr (b.on a o' z))⟩
/-! ### read while built -/
/-- what is being built, as a datum -/
def Slot.seen : Slot → Option D
  | .own ds => some (.lst ds)
  | .ownD kvs => some (.dct kvs)
  | .ownI kvs => some (.dki kvs)
  | _ => Option.none
theorem AtO.view {i : Nat} {s : Slot} {d : D} (a : AtO M W H0 r σ H own) (hr : r[i]? = some s) (hs : s.seen = some d) :
    Slots M (W.adds (OwnS (ownSet own i none))) H (vis (r.set i (.val d))) σ ∧ (W.adds (OwnS (ownSet own i none))).ok H ∧ ∀ H2, Ext (W.adds (OwnS (ownSet own i none))) H H2 → AtO M W H0 r σ H2 own := by
  have fin : ∀ {d' : D} {v : V}, σ[i]? = some (some v) → Rep M (W.adds (OwnS (ownSet own i none))) H d' v → Slots M (W.adds (OwnS (ownSet own i none))) H (vis (r.set i (.val d'))) σ := fun {d' v} hv rv => by
    have wk : Car (W.adds (OwnS own)) (W.adds (OwnS (ownSet own i none))) H H := ⟨fun b o n h => ⟨h, fun z => n (z.elim .inl fun ⟨j, z⟩ => .inr ⟨j, ownSet_none z⟩)⟩, fun _ t => t⟩
    refine ⟨by unfold vis; rw [List.length_map, List.length_set]; exact a.len, fun j d2 h => ?_⟩
    by_cases q : i = j
    · subst q
      have hi : i < r.length := (List.getElem?_eq_some_iff.mp hr).1
      unfold vis at h
      rw [List.getElem?_map, List.getElem?_set_self hi] at h
      have h : some (some d') = some (some d2) := h
      cases h
      exact ⟨v, hv, rv⟩
    · have h' : (vis r)[j]? = some (some d2) := by
        unfold vis at h ⊢
        rw [List.getElem?_map, List.getElem?_set_ne q] at h
        rw [List.getElem?_map]
        exact h
      obtain ⟨x, h1, h2⟩ := a.slots.2 j d2 h'
      exact ⟨x, h1, Rep.car wk d2 x h2⟩
  have okv : (W.adds (OwnS (ownSet own i none))).ok H := a.okW.adds fun p ⟨j, e⟩ => a.tr (ownSet_none e)
  refine ⟨?_, okv, fun H2 e => a.go (Ext.adds.mp e)⟩
  cases s with
  | own ds =>
    cases hs
    obtain ⟨v, h1, h2, _⟩ := a.freeze hr
    exact fin h1 h2
  | ownD kvs =>
    cases hs
    obtain ⟨v, h1, h2, _⟩ := a.freezeD hr
    exact fin h1 h2
  | ownI kvs =>
    cases hs
    obtain ⟨v, h1, h2, _⟩ := a.freezeI hr
    exact fin h1 h2
  | _ => cases hs
/-- if, its test reading what is being built at slot i -/
theorem hs_ifV {c : Expr} {b : Bool} {s1 s2 : List Stmt} {M : L2.St → Hp → Prop} {s : Slot} {d : D} (i : Nat) (hr : r[i]? = some s) (hs : s.seen = some d) (hc : PT X c (tT (pw X) (vis (r.set i (.val d))) b)) (h1 : b = true → Hs X s1 (At (pw X) W H0 r) { E with nx := M }) (h2 : b = false → Hs X s2 (At (pw X) W H0 r) { E with nx := M }) (k : Hs X rest M E) : Hs X (.If c s1 s2 pos :: rest) (At (pw X) W H0 r) E := by
  have rd : ∀ σ H (Q : Bool → Hp → Prop), At (pw X) W H0 r σ H → (∀ H2, At (pw X) W H0 r σ H2 → Q b H2) → tT (pw X) (vis (r.set i (.val d))) b σ H Q := fun σ H Q ⟨own, a⟩ q =>
    let ⟨v1, v2, v3⟩ := a.view hr hs
    ⟨_, v1, v2, fun H2 e => q H2 ⟨own, v3 H2 e⟩⟩
  cases b with
  | true => exact hs_cons (M := M) (ps_if hc (pss_hs (ι := Unit) fun _ => h1 rfl) (pss_never (sts := s2))) (fun σ H a => rd σ H _ a fun H2 a2 => ⟨(), a2, Le.refl _⟩) k
  | false => exact hs_cons (M := M) (ps_if hc (pss_never (sts := s1)) (pss_hs (ι := Unit) fun _ => h2 rfl)) (fun σ H a => rd σ H _ a fun H2 a2 => ⟨(), a2, Le.refl _⟩) k
/-- name[key] = e, e an int that reads the dict -/
theorem hs_dputV {oe ke : Expr} {kvs : List (NestedKey × D)} {ks : List NestedKey} {n : Int} (i : Nat) (hu : X.A.units + 64 < cLine) (he : PE X e (tD (pw X) (vis (r.set i (.val (.dct kvs)))) (.int n))) (ho : PE X oe (tVar i)) (hk : PE X ke (tD (pw X) (vis r) (kd (.tup ks)))) (hr : r[i]? = some (.ownD kvs)) (hd : (NestedKey.tup ks).depth ≤ 8) (hl : kvs.length < sizeLine)
    (k : Hs X rest (At (pw X) W H0 (r.set i (.ownD (putN kvs (.tup ks) (.int n))))) E) (hs : swapsWith e (some (.Subscript oe ke pos')) pos.line X.env = pure false := by rfl) :
    Hs X (.Assign [.Subscript oe ke pos'] e pos :: rest) (At (pw X) W H0 r) E := by
  refine hs_cons (M := At (pw X) W H0 (r.set i (.ownD (putN kvs (.tup ks) (.int n))))) (ps_putN hu ho hk he hs) (fun σ H a => ?_) k
  have hi : i < r.length := (List.getElem?_eq_some_iff.mp hr).1
  obtain ⟨own, a⟩ := a
  obtain ⟨v1, v2, v3⟩ := a.view hr (s := .ownD kvs) rfl
  refine ⟨_, v1, v2, fun v H1 d kd e1 rv => ?_⟩
  subst kd
  have a1 := v3 H1 e1
  obtain ⟨p, o, es, h1, h2, h3, h0, h4, h5⟩ := a1.sl i _ hr
  refine ⟨.ref p, h2, W.adds (OwnS own), a1.slots, a1.ok', fun y H3 dy ky e3 ry => ?_⟩
  subst ky
  have a3 := a1.go (Ext.adds.mp e3)
  have h3' : H3 p = some (dO p o) := e3.keep _ _ (a1.nT h1) h3
  have h5' := h5.ext a1.ok' e3
  have kr : KRep (W.adds (OwnS own)) H3 (.tup ks) y := (krep_kd (M := pw X) _ _).mpr ry
  obtain ⟨b, vs, eb, nb, hb, kb⟩ := id kr
  subst eb
  refine ⟨W.adds (OwnS own), p, o, es, kvs, .tup ks, b, rfl, h3', h0, h4, h5', rfl, kr, hd, by rw [h5.length]; exact hl, fun o' u ru he' => ?_⟩
  have cr : Car (W.adds (OwnS own)) (W.adds (OwnS own)) H3 (L2.upd H3 p (dO p o')) := Car.upd (W := W.adds (OwnS own)) (.inr ⟨i, h1⟩)
  have fin := RepKV.put (RepKV.car cr _ _ h5') (KRep.car cr _ _ kr) ru (d := .int n) rv
  have hsl : SlotOk (pw X) (W.adds (OwnS own)) (L2.upd H3 p (dO p o')) (some p) (.ownD (putN kvs (.tup ks) (.int n))) σ[i]? := ⟨p, o', _, rfl, h2, upd_same, h0, he', fin⟩
  exact a3.upd hi h1 hsl
/-! an item of a dict that is being built, as what a loop walks -/
def rIxP (M : MW) : V → V → Hp → VK → Prop := fun x y H Q => ∃ W a o es kvs k d b, x = .ref a ∧ H a = some (dO a o) ∧ (a == sysModules) = false ∧ Ents M o es ∧ RepKV M W H kvs es ∧ y = .ref b ∧ KRep W H k y ∧ k.depth ≤ 8 ∧ valN kvs k = some d ∧ ∀ v, Rep M W H d v → Q v H
theorem pe_ogetN {o i : Expr} {td ty : TE} (hu : X.A.units + 64 < cLine) (ho : PE X o td) (hi : PE X i ty) (hs : NoSl i := by intro _ _; rfl) : PE X (.Subscript o i pos) (tOp (rIxP (pw X)) td ty) := by
  refine ⟨fun pins s σ H Q I h => ?_⟩
  refine subD_of PySem.F.slot_dict_getitem.lookup hs (thn (ho.run pins s σ H _ I h) fun u s1 ⟨x, H1, I1, rx, q1⟩ => thn (hi.run pins s1 σ H1 _ I1 q1) fun iv s2 ⟨y, H2, I2, ry, W, a, ob, es, kvs, k, d, b, ex, h1, h0, he, rk, ey, hk, hd, hv, q2⟩ => ?_)
  subst ex; subst ey
  obtain rfl : u = Value.ref a := rx
  obtain rfl : iv = Value.ref b := ry
  have dd := dct_of I2 h1 he rk
  obtain ⟨p, v, hp, rv, rd⟩ := rk.val hv
  exact ⟨dd.typeIs, wpAny_getItem_heap (knd := nk (pw X)) (show X.A.units + 1 + 8 < cLine by omega) (key_is I2 hk hd) dd hp ⟨v, H2, I2.tok _, rv, q2 v rd⟩⟩
/-- for x in name[key]: name the dict that is being built at slot i, a list of plain data its item -/
theorem hs_forO {tg oe ke : Expr} {body : List Stmt} {g : TG} {ds : List D} {kvs : List (NestedKey × D)} {ks : List NestedKey} {K' : D → Prop} (i : Nat) (Ri : Nat → List Slot → Prop) (hu : X.A.units + 64 < cLine) (hc : X.calm = true) (hp : PassesOwn (model X.prog X.w) X.A X.env X.xe) (ho : PE X oe (tVar i)) (hk : PE X ke (tD (pw X) (vis r) (kd (.tup ks)))) (hr : r[i]? = some (.ownD kvs)) (hd : (NestedKey.tup ks).depth ≤ 8) (hv : valN kvs (.tup ks) = some (.lst ds)) (hg : PG X tg g)
    (h0 : Ri 0 r) (u : D → List (Nat × D)) (gd : ∀ d, d ∈ ds → GD (pw X) g d (u d))
    (hb : ∀ L j d r', ds[j]? = some d → Ri j r' → Hs X body (At (pw X) W L (setsS (u d) r')) { nx := fun σ H => ∃ r', Ri (j + 1) r' ∧ At (pw X) W L r' σ H, ct := fun σ H => ∃ r', Ri (j + 1) r' ∧ At (pw X) W L r' σ H, rt := Rt (pw X) W L K' })
    (hrt : ∀ v H, Rt (pw X) W H0 K' v H → E.rt v H) (k : ∀ r', Ri ds.length r' → Hs X rest (At (pw X) W H0 r') E)
    (hns : NoSl ke := by intro _ _; rfl) (hs : ∀ x, foldedSetIterable (.Subscript oe ke pos') X.env x = pure x := by intro _; rfl) : Hs X (.For tg (.Subscript oe ke pos') body [] pos :: rest) (At (pw X) W H0 r) E := by
  refine hs_forG (Ki := fun x => x = ds) (fun _ => False) (fun _ => Ri) hc hp (pi_list (pe_ogetN hu ho hk hns)) hg (fun _ h => h.elim) (fun σ H own R a q => ?_) (fun _ _ => h0) u (fun ds' d e h => gd d (by rw [← e]; exact h)) (fun L ds' j d r' _ e h1 h2 => hb L j d r' (by rw [← e]; exact h1) h2) hrt (fun ds' r' e h => k r' (by rw [← e]; exact h)) hs
  obtain ⟨p, o, es, h1, h2, h3, h0', h4, h5⟩ := a.sl i _ hr
  refine ⟨.ref p, h2, W.adds (OwnS own), a.slots, a.ok', fun y H3 dy ky e3 ry => ?_⟩
  subst ky
  have h3' : H3 p = some (dO p o) := e3.keep _ _ (a.nT h1) h3
  have h5' := h5.ext a.ok' e3
  have kr : KRep (W.adds (OwnS own)) H3 (.tup ks) y := (krep_kd (M := pw X) _ _).mpr ry
  obtain ⟨b, vs, eb, nb, hb', kb⟩ := id kr
  refine ⟨W.adds (OwnS own), p, o, es, kvs, .tup ks, _, b, rfl, h3', h0', h4, h5', eb, kr, hd, hv, fun v rv => ?_⟩
  obtain ⟨c, ws, ev, nc, hc', rc⟩ := rv
  have wk : Car (W.adds (OwnS own)) ((W.adds (OwnS own)).adds fun _ => False) H3 H3 := ⟨fun b o n h => ⟨h, fun z => z.elim n fun z => z.elim⟩, fun _ t => t⟩
  exact ⟨c, ev, ⟨ws, .of hc'⟩, q _ H3 ds rfl (Ext.adds.mp e3) (itd_list (fun z => z.elim nc fun z => z.elim) hc' (RepL.car wk _ _ rc))⟩
/-! ### while -/
theorem hs_while {c : Expr} {body : List Stmt} {K' : D → Prop} (Ri : Nat → List Slot → Prop) (b : List Slot → Bool) (n0 : Nat) (hp : PassesOwn (model X.prog X.w) X.A X.env X.xe) (h0 : Ri n0 r)
    (hc : ∀ n r', Ri n r' → PT X c (tT (pw X) (vis r') (b r'))) (hb : ∀ n r', Ri n r' → b r' = true → Hs X body (At (pw X) W H0 r') { nx := fun σ H => ∃ m r', m < n ∧ Ri m r' ∧ At (pw X) W H0 r' σ H, ct := fun σ H => ∃ m r', m < n ∧ Ri m r' ∧ At (pw X) W H0 r' σ H, rt := Rt (pw X) W H0 K' })
    (hrt : ∀ v H, Rt (pw X) W H0 K' v H → E.rt v H) (k : ∀ n r', Ri n r' → b r' = false → Hs X rest (At (pw X) W H0 r') E) : Hs X (.While c body [] pos :: rest) (At (pw X) W H0 r) E := by
  let tc : TT := fun σ H Q => ∃ n r', Ri n r' ∧ tT (pw X) (vis r') (b r') σ H Q
  have pc : PT X c tc := ⟨fun pins s σ H Q I ⟨n, r', hr, q⟩ => (hc n r' hr).run pins s σ H Q I q⟩
  refine hs_cons (M := fun σ H => ∃ z : { z : Nat × List Slot // Ri z.1 z.2 ∧ b z.2 = false }, At (pw X) W H0 z.1.2 σ H) (ps_while hp pc (pss_hs (ι := { z : Nat × List Slot // Ri z.1 z.2 ∧ b z.2 = true }) (P := fun z => At (pw X) W H0 z.1.2) (E := fun z => { nx := fun σ H => ∃ m r', m < z.1.1 ∧ Ri m r' ∧ At (pw X) W H0 r' σ H, ct := fun σ H => ∃ m r', m < z.1.1 ∧ Ri m r' ∧ At (pw X) W H0 r' σ H, rt := Rt (pw X) W H0 K' })
    fun z => hb z.1.1 z.1.2 z.2.1 z.2.2)) (fun σ H a => ?_) (hs_ex (ι := { z : Nat × List Slot // Ri z.1 z.2 ∧ b z.2 = false }) (P := fun z => At (pw X) W H0 z.1.2) fun z => k z.1.1 z.1.2 z.2.1 z.2.2)
  refine ⟨fun m σ H => ∃ r', Ri m r' ∧ At (pw X) W H0 r' σ H, ⟨n0, r, h0, a⟩, ?_⟩
  rintro m σ2 H2 ⟨r', hr, a2⟩
  refine ⟨m, r', hr, a2.tT fun H3 a3 => ?_⟩
  cases hbv : b r' with
  | true => exact ⟨fun σ H => ∃ m' r', m' < m ∧ Ri m' r' ∧ At (pw X) W H0 r' σ H, fun σ' H' ⟨m', r2, l, h1, h2⟩ => ⟨m', l, r2, h1, h2⟩, ⟨(m, r'), hr, hbv⟩, a3, ⟨fun _ _ h => h, fun v H h => hrt v H h, fun _ _ h => h.elim, fun _ _ h => h⟩⟩
  | false => exact ⟨⟨(m, r'), hr, hbv⟩, a3⟩
end
end PD

set_option Elab.async false
set_option linter.all false
set_option maxRecDepth 100000
set_option maxHeartbeats 2000000
/-! Pd20: loops over range and over a reversed list, beside a table in the making. -/
namespace PD
open PySem L2 PySem.Spec PyProof.Rows
/-- what a table in the making changes -/
def isTab (o : HO) : Prop := match o with
  | .ins _ _ _ => True
  | .frz _ (.lst _) => True
  | _ => False
def TabO (H : Hp) (O : Addr → Prop) : Prop := ∀ a, O a → ∃ o, H a = some o ∧ isTab o
theorem TabO.no {H : Hp} {O : Addr → Prop} (t : TabO H O) {a : Addr} {o : HO} (h : H a = some o) (n : isTab o → False) : ¬ O a := fun z => by
  obtain ⟨o', h', m⟩ := t a z
  rw [h] at h'; cases h'
  exact n m
section
variable {M : MW} {W : Wd} {H : Hp} {O : Addr → Prop}
theorem nS_adds {a : Addr} (n : ¬ W.S a) (m : ¬ O a) : ¬ (W.adds O).S a := fun z => z.elim n m
mutual
theorem KRep.more (t : TabO H O) : ∀ (x : NestedKey) (v : V), KRep W H x v → KRep (W.adds O) H x v
  | .none, v, h => h
  | .num i, v, h => h
  | .text x, v, h => h
  | .tup ks, v, ⟨a, vs, e, n, ⟨o, od, h1⟩, h2⟩ => ⟨a, vs, e, nS_adds n (t.no h1 fun z => z), ⟨o, od, h1⟩, KRepL.more t ks vs h2⟩
theorem KRepL.more (t : TabO H O) : ∀ (x : List NestedKey) (vs : List V), KRepL W H x vs → KRepL (W.adds O) H x vs
  | [], vs, h => h
  | x :: xs, vs, ⟨v, r, e, h1, h2⟩ => ⟨v, r, e, KRep.more t x v h1, KRepL.more t xs r h2⟩
end
mutual
theorem Rep.more (t : TabO H O) : ∀ (d : D) (v : V), isPl d = true → Rep M W H d v → Rep M (W.adds O) H d v
  | .non, v, _, h => h
  | .bl b, v, _, h => h
  | .int i, v, _, h => h
  | .str x, v, _, h => h
  | .tup ds, v, p, ⟨a, vs, e, n, h1, h2⟩ => ⟨a, vs, e, nS_adds n (t.no h1 fun z => z), h1, RepL.more t ds vs (by unfold isPl at p; exact p) h2⟩
  | .lst ds, v, p, ⟨a, vs, e, n, h1, h2⟩ => ⟨a, vs, e, nS_adds n (t.no h1 fun z => z), h1, RepL.more t ds vs (by unfold isPl at p; exact p) h2⟩
  | .dct kvs, v, p, ⟨a, o, es, e, n, h1, h0, h3, h2⟩ => ⟨a, o, es, e, nS_adds n (t.no h1 fun z => z), h1, h0, h3, RepKV.more t kvs es (by unfold isPl at p; exact p) h2⟩
  | .ins C fs, v, p, _ => by unfold isPl at p; cases p
  | .src, v, _, h => h
  | .dki kvs, v, _, ⟨a, o, e, n, h1, h0, h3⟩ => ⟨a, o, e, nS_adds n (t.no h1 fun z => z), h1, h0, h3⟩
  | .ktp ds, v, p, ⟨a, vs, e, n, ⟨o, od, h1⟩, h2⟩ => ⟨a, vs, e, nS_adds n (t.no h1 fun z => z), ⟨o, od, h1⟩, RepL.more t ds vs (by unfold isPl at p; exact p) h2⟩
  | .flst ds, v, p, _ => by unfold isPl at p; cases p
  | .adr a, v, _, h => h
theorem RepL.more (t : TabO H O) : ∀ (ds : List D) (vs : List V), isPls ds = true → RepL M W H ds vs → RepL M (W.adds O) H ds vs
  | [], vs, _, h => h
  | d :: ds, vs, p, ⟨v, r, e, h1, h2⟩ => by
    unfold isPls at p
    simp only [Bool.and_eq_true] at p
    exact ⟨v, r, e, Rep.more t d v p.1 h1, RepL.more t ds r p.2 h2⟩
theorem RepKV.more (t : TabO H O) : ∀ (ds : List (NestedKey × D)) (vs : List (NestedKey × Addr × Value)), isPlk ds = true → RepKV M W H ds vs → RepKV M (W.adds O) H ds vs
  | [], vs, _, h => h
  | (x, d) :: ds, vs, p, ⟨a, u, v, es', e, h1, h2, h3, h4⟩ => by
    unfold isPlk at p
    simp only [Bool.and_eq_true] at p
    exact ⟨a, u, v, es', e, KRep.more t x _ h1, h2, Rep.more t d v p.1 h3, RepKV.more t ds es' p.2 h4⟩
end
/-- what a table in the making changes, told of its slot -/
theorem AtO.tabO {H0 : Hp} {r : List Slot} {σ : L2.St} {own : Nat → Option Addr} {p dx C : Addr} {fs : List (Str × D)} {ls : List (Str × Addr × List D)} (a : AtO M W H0 (.selfS p dx C fs ls :: r) σ H own) (hO : ∀ b, O b ↔ b = p ∨ ∃ x ∈ ls, b = x.2.1) : TabO H O := fun b ob => by
  obtain ⟨⟨h1, h2, np, gs, h3, h4, h5, h6, h7⟩, h0⟩ := At.self0 a
  rcases (hO b).mp ob with z | ⟨x, hx, z⟩
  · exact ⟨.ins C dx gs, (by rw [z]; exact h3), trivial⟩
  · obtain ⟨q1, nq, o, vs, q3, q4⟩ := h7 x hx
    exact ⟨.frz o (.lst vs), (by rw [z]; exact q3), trivial⟩
end
section
variable {X : Cx} {W : Wd} {H0 : Hp} {r : List Slot} {rest : List Stmt} {E : Ends} {pos pp pos2 : Pos} {p dx C : Addr} {fs : List (Str × D)} {ls : List (Str × Addr × List D)}
/-- for tg in range(a, b), beside a table in the making -/
theorem hs_forGR {tg a b : Expr} {body : List Stmt} {g : TG} {K' : D → Prop} {l n : Int} (B : Base X H0 p dx ls) (Ri : Nat → List Slot → Prop) (hc : X.calm = true) (hp : PassesOwn (model X.prog X.w) X.A X.env X.xe) (hm : X.mg "range" = none)
    (h : PA X [a, b] (tAD (pw X) (vis (.selfS p dx C fs ls :: r)) [.int l, .int n])) (bb : -(2 ^ 62) ≤ l ∧ l < 2 ^ 62 ∧ -(2 ^ 62) ≤ n ∧ n < 2 ^ 62) (hg : PG X tg g)
    (h0 : Ri 0 (.selfS p dx C fs ls :: r)) (u : Int → List (Nat × D)) (gd : ∀ i : Int, GD (pw X) g (.int i) (u i))
    (hb : ∀ L i r', Base X L p dx ls → i < (n - l).toNat → Ri i r' → Hs X body (At (pw X) W L (setsS (u (l + (i : Nat))) r')) { nx := fun σ H => ∃ r', Ri (i + 1) r' ∧ At (pw X) W L r' σ H, ct := fun σ H => ∃ r', Ri (i + 1) r' ∧ At (pw X) W L r' σ H, rt := Rt (pw X) W L K' })
    (hrt : ∀ v H, Rt (pw X) W H0 K' v H → E.rt v H) (k : ∀ r', Ri (n - l).toNat r' → Hs X rest (At (pw X) W H0 r') E)
    (hgl : Gl X "range" := by rfl) (hs : starEach [a, b] X.env = [(false, eval a X.env), (false, eval b X.env)] := by rfl) (hs2 : starEach [b] X.env = [(false, eval b X.env)] := by rfl)
    (hf : ∀ x, foldedSetIterable (.Call (.Name "range" pp) [a, b] [] pos2) X.env x = pure x := by intro _; rfl) : Hs X (.For tg (.Call (.Name "range" pp) [a, b] [] pos2) body [] pos :: rest) (At (pw X) W H0 (.selfS p dx C fs ls :: r)) E := by
  refine hs_forG (Ki := fun ds => ds = (List.range (n - l).toNat).map fun i => D.int (l + (i : Nat))) (fun a => a = p ∨ ∃ x ∈ ls, a = x.2.1) (fun _ => Ri) hc hp (pi_range2 hgl hm h hs hs2) hg (fun a o => ?_) (fun σ H own R a q => ?_) (fun _ _ => h0) (fun d => match d with | .int i => u i | _ => []) (fun ds d e hd => ?_) (fun L ds i d r' lb e hd hR => ?_) hrt (fun ds r' e hR => ?_) hf
  · rcases o with z | ⟨x, hx, z⟩
    · rw [z]; exact B.p0
    · rw [z]; exact (B.q0 x hx).1
  · refine ⟨_, a.slots, a.ok', fun us H1 dd kd e1 rv => ?_⟩
    subst kd
    obtain ⟨v, rr, e, rv, v2, r2, e2, rv2, e3⟩ := rv
    rw [e2, show r2 = [] from e3, show v = V.int l from rv, show v2 = V.int n from rv2] at e
    exact ⟨l, n, e, bb, q _ H1 _ rfl (Ext.adds.mp e1) itd_range⟩
  · rw [e] at hd
    obtain ⟨i, _, e2⟩ := List.mem_map.mp hd
    rw [← e2]
    exact gd _
  · rw [e] at hd
    rw [List.getElem?_map] at hd
    have hj : i < (n - l).toNat := by
      rcases Nat.lt_or_ge i (n - l).toNat with q | q
      · exact q
      · rw [List.getElem?_eq_none (by simpa using q)] at hd; cases hd
    rw [List.getElem?_range hj] at hd
    have hd : D.int (l + (i : Nat)) = d := by simpa using hd
    subst hd
    exact hb L i r' (B.loop lb fun a => Iff.rfl) hj hR
  · rw [e, List.length_map, List.length_range] at hR
    exact k r' hR
/-- for tg in reversed(e), e a new list, beside a table in the making -/
theorem hs_forGV {tg e : Expr} {body : List Stmt} {g : TG} {K' : D → Prop} {ds : List D} (B : Base X H0 p dx ls) (Ri : Nat → List Slot → Prop) (hc : X.calm = true) (hp : PassesOwn (model X.prog X.w) X.A X.env X.xe) (hm : X.mg "reversed" = none)
    (h : PE X e (tF (pw X) (vis (.selfS p dx C fs ls :: r)) (fun x => x = ds))) (hpl : isPls ds = true) (hg : PG X tg g)
    (h0 : Ri 0 (.selfS p dx C fs ls :: r)) (u : D → List (Nat × D)) (gd : ∀ d, d ∈ ds → GD (pw X) g d (u d))
    (hb : ∀ L i d r', Base X L p dx ls → ds.reverse[i]? = some d → Ri i r' → Hs X body (At (pw X) W L (setsS (u d) r')) { nx := fun σ H => ∃ r', Ri (i + 1) r' ∧ At (pw X) W L r' σ H, ct := fun σ H => ∃ r', Ri (i + 1) r' ∧ At (pw X) W L r' σ H, rt := Rt (pw X) W L K' })
    (hrt : ∀ v H, Rt (pw X) W H0 K' v H → E.rt v H) (k : ∀ r', Ri ds.length r' → Hs X rest (At (pw X) W H0 r') E)
    (hgl : Gl X "reversed" := by rfl) (hs : starEach [e] X.env = [(false, eval e X.env)] := by rfl) (hs' : starEach [e] X.env = (false, eval e X.env) :: starEach [] X.env := by rfl)
    (hf : ∀ x, foldedSetIterable (.Call (.Name "reversed" pp) [e] [] pos2) X.env x = pure x := by intro _; rfl) : Hs X (.For tg (.Call (.Name "reversed" pp) [e] [] pos2) body [] pos :: rest) (At (pw X) W H0 (.selfS p dx C fs ls :: r)) E := by
  refine hs_forG (Ki := fun ds' => ds' = ds.reverse) (fun a => a = p ∨ ∃ x ∈ ls, a = x.2.1) (fun _ => Ri) hc hp (pi_reversed hgl hm (pa_cons h pa_nil hs') hs) hg (fun a o => ?_) (fun σ H own R a q => ?_) (fun _ _ => h0) u (fun ds' d e hd => gd d (by rw [e] at hd; exact List.mem_reverse.mp hd)) (fun L ds' i d r' lb e hd hR => hb L i d r' (B.loop lb fun a => Iff.rfl) (by rw [← e]; exact hd) hR) hrt (fun ds' r' e hR => k r' (by rw [e, List.length_reverse] at hR; exact hR)) hf
  · rcases o with z | ⟨x, hx, z⟩
    · rw [z]; exact B.p0
    · rw [z]; exact (B.q0 x hx).1
  · refine ⟨_, a.slots, a.ok', fun l vs H1 ds' e hl e1 hl1 rs => ?_⟩
    subst e
    have ext := Ext.adds.mp e1
    have a1 := a.go ext
    have t := a1.tabO (O := fun a => a = p ∨ ∃ x ∈ ls, a = x.2.1) fun b => Iff.rfl
    have nl : ¬ (fun a => a = p ∨ ∃ x ∈ ls, a = x.2.1) l := t.no hl1 fun z => z
    have t2 : TabO H1 (fun b => (fun a => a = p ∨ ∃ x ∈ ls, a = x.2.1) b) := t
    have r0 : RepL (pw X) (W.adds (OwnS own)) H1 ds' vs := RepL.car Car.back ds' vs rs
    have r1 := RepL.more t ds' vs hpl r0
    exact ⟨l, vs, rfl, .of hl1, q _ H1 _ rfl ext (itd_rev (nS_adds (a.ok'.nS hl) nl) hl1 r1)⟩
end
end PD

set_option Elab.async false
set_option linter.all false
set_option maxRecDepth 100000
set_option maxHeartbeats 1000000
/-! Pd21: pairs of names. -/
namespace PD
open PySem L2 PySem.Spec PyProof.Rows
section
variable {M : MW} {W : Wd} {H0 H : Hp} {r : List Slot} {σ : L2.St} {K1 K2 : D → Prop} {Ks : List D → Prop}
theorem At.pairF (i j : Nat) (hj : j < r.length) {Q : V → V → Hp → Prop} (a : At M W H0 r σ H) (q : ∀ v p H2 d ds, K1 d → Ks ds → At M W H0 ((r.set i (.val d)).set j (.own ds)) ((σ.set i (some v)).set j (some (.ref p))) H2 → Q v (.ref p) H2) :
    PD.tN M (vis r) K1 σ H fun v H1 => PD.tF M (vis r) Ks σ H1 fun w H2 => Q v w H2 :=
  a.tN fun own v H1 d a1 kd rv => ⟨W.adds (OwnS own), a1.slots, a1.ok', fun p vs H2 ds ks hp e1 h2 rs => q v p H2 d ds kd ks
    ((a1.set (i := i) rv).new (i := j) (by rw [List.length_set]; exact hj) hp (Ext.adds.mp e1) ⟨p, vs, rfl, rfl, h2, RepL.car (W := (W.adds (OwnS own)).add p) (W' := (W.adds (OwnS (ownSet own i Option.none))).add p) (Car.weak (fun b s => s.elim (fun s => .inl (s.elim .inl fun ⟨k, z⟩ => .inr ⟨k, ownSet_none z⟩)) .inr) fun _ t => t) ds vs rs⟩)⟩
theorem At.pairD (i j : Nat) {Q : V → V → Hp → Prop} (a : At M W H0 r σ H) (q : ∀ v w H2 d d2, K1 d → K2 d2 → At M W H0 ((r.set i (.val d)).set j (.val d2)) ((σ.set i (some v)).set j (some w)) H2 → Q v w H2) :
    PD.tN M (vis r) K1 σ H fun v H1 => PD.tN M (vis r) K2 σ H1 fun w H2 => Q v w H2 :=
  a.tN fun own v H1 d a1 kd rv => ⟨W.adds (OwnS own), a1.slots, a1.ok', fun w H2 d2 k2 e1 rw2 => q v w H2 d d2 kd k2
    ⟨_, (((a1.go (Ext.adds.mp e1)).set (i := i) (rv.ext a1.ok' e1)).set (i := j) (Rep.car (W := W.adds (OwnS own)) (W' := W.adds (OwnS (ownSet own i Option.none))) (Car.weak (fun b s => s.elim .inl fun ⟨k, z⟩ => .inr ⟨k, ownSet_none z⟩) fun _ t => t) d2 w rw2))⟩⟩
end
section
variable {X : Cx} {W : Wd} {H0 : Hp} {r : List Slot} {K1 K2 : D → Prop} {Ks : List D → Prop} {rest : List Stmt} {E : Ends} {a b : Expr} {pos px py pt pt2 : Pos} {x y : Str} {kt k2 : Nat}
/-- x, y = a, b: plain locals on one line; b a new list -/
theorem hs_parF (i j : Nat) (ha : PE X a (tN (pw X) (vis r) K1)) (hb : PE X b (tF (pw X) (vis r) Ks)) (hc : X.calm = true) (hN : X.N.Nodup) (k : ∀ d ds, K1 d → Ks ds → Hs X rest (At (pw X) W H0 ((r.set i (.val d)).set j (.own ds))) E) (hj : j < r.length) (hij : i ≠ j)
    (hi' : X.N[i]? = some x := by rfl) (hj' : X.N[j]? = some y := by rfl) (hx : X.env.scope.names.lookup x = some .local := by rfl) (hy : X.env.scope.names.lookup y = some .local := by rfl)
    (hw : swappedStores [.Tuple [.Name x px, .Name y py] kt pt] (.Tuple [a, b] k2 pt2) X.env = pure (some [x, y]) := by rfl)
    (h1 : starEach [a, b] X.env = (false, eval a X.env) :: starEach [b] X.env := by rfl) (h2 : starEach [b] X.env = (false, eval b X.env) :: starEach [] X.env := by rfl)
    (hs : swapsWithSole [.Tuple [.Name x px, .Name y py] kt pt] (.Tuple [a, b] k2 pt2) pos.line X.env = pure false := by rfl) :
    Hs X (.Assign [.Tuple [.Name x px, .Name y py] kt pt] (.Tuple [a, b] k2 pt2) pos :: rest) (At (pw X) W H0 r) E :=
  hs_cons (M := fun σ H => ∃ z : { z : D × List D // K1 z.1 ∧ Ks z.2 }, At (pw X) W H0 ((r.set i (.val z.1.1)).set j (.own z.1.2)) σ H) (ps_par hc hN hi' hj' hij hx hy (pa_cons ha (pa_cons hb pa_nil h2) h1) hw hs)
    (fun σ H at0 => at0.pairF i j hj fun v p H2 d ds kd ks a2 => ⟨v, .ref p, rfl, ⟨(d, ds), kd, ks⟩, a2⟩) (hs_ex fun z => k z.1.1 z.1.2 z.2.1 z.2.2)
/-- x, y = a, b: plain locals on one line; two data -/
theorem hs_parD (i j : Nat) (ha : PE X a (tN (pw X) (vis r) K1)) (hb : PE X b (tN (pw X) (vis r) K2)) (hc : X.calm = true) (hN : X.N.Nodup) (k : ∀ d d2, K1 d → K2 d2 → Hs X rest (At (pw X) W H0 ((r.set i (.val d)).set j (.val d2))) E) (hij : i ≠ j)
    (hi' : X.N[i]? = some x := by rfl) (hj' : X.N[j]? = some y := by rfl) (hx : X.env.scope.names.lookup x = some .local := by rfl) (hy : X.env.scope.names.lookup y = some .local := by rfl)
    (hw : swappedStores [.Tuple [.Name x px, .Name y py] kt pt] (.Tuple [a, b] k2 pt2) X.env = pure (some [x, y]) := by rfl)
    (h1 : starEach [a, b] X.env = (false, eval a X.env) :: starEach [b] X.env := by rfl) (h2 : starEach [b] X.env = (false, eval b X.env) :: starEach [] X.env := by rfl)
    (hs : swapsWithSole [.Tuple [.Name x px, .Name y py] kt pt] (.Tuple [a, b] k2 pt2) pos.line X.env = pure false := by rfl) :
    Hs X (.Assign [.Tuple [.Name x px, .Name y py] kt pt] (.Tuple [a, b] k2 pt2) pos :: rest) (At (pw X) W H0 r) E :=
  hs_cons (M := fun σ H => ∃ z : { z : D × D // K1 z.1 ∧ K2 z.2 }, At (pw X) W H0 ((r.set i (.val z.1.1)).set j (.val z.1.2)) σ H) (ps_par hc hN hi' hj' hij hx hy (pa_cons ha (pa_cons hb pa_nil h2) h1) hw hs)
    (fun σ H at0 => at0.pairD i j fun v w H2 d d2 kd ks a2 => ⟨v, w, rfl, ⟨(d, d2), kd, ks⟩, a2⟩) (hs_ex fun z => k z.1.1 z.1.2 z.2.1 z.2.2)
/-- x, y = a, b, by way of the pair; b a new list -/
theorem hs_parTF (i j : Nat) (ha : PE X a (tN (pw X) (vis r) K1)) (hb : PE X b (tF (pw X) (vis r) Ks)) (hg : PG X (.Tuple [.Name x px, .Name y py] kt pt) (gTup X.K 2 (gCons (gName i) (gCons (gName j) gNil)))) (k : ∀ d ds, K1 d → Ks ds → Hs X rest (At (pw X) W H0 ((r.set i (.val d)).set j (.own ds))) E) (hj : j < r.length)
    (h1 : starEach [a, b] X.env = (false, eval a X.env) :: starEach [b] X.env := by rfl) (h2 : starEach [b] X.env = (false, eval b X.env) :: starEach [] X.env := by rfl)
    (hs : swapsWithSole [.Tuple [.Name x px, .Name y py] kt pt] (.Tuple [a, b] k2 pt2) pos.line X.env = pure false := by rfl) (hw : swappedStores [.Tuple [.Name x px, .Name y py] kt pt] (.Tuple [a, b] k2 pt2) X.env = pure none := by rfl)
    (h3 : (assignEach [.Tuple [.Name x px, .Name y py] kt pt] X.env).map (·.2) = [assign (.Tuple [.Name x px, .Name y py] kt pt) X.env] := by rfl) :
    Hs X (.Assign [.Tuple [.Name x px, .Name y py] kt pt] (.Tuple [a, b] k2 pt2) pos :: rest) (At (pw X) W H0 r) E :=
  hs_cons (M := fun σ H => ∃ z : { z : D × List D // K1 z.1 ∧ Ks z.2 }, At (pw X) W H0 ((r.set i (.val z.1.1)).set j (.own z.1.2)) σ H) (ps_asg (pe_tup (pa_cons ha (pa_cons hb pa_nil h2) h1)) hg hs hw h3)
    (fun σ H at0 => at0.pairF i j hj fun v p H2 d ds kd ks a2 => ⟨(by show 2 ≤ sizeLine; exact Nat.le_of_ble_eq_true rfl), fun t ht => ⟨t, [v, .ref p], rfl, .of upd_same, rfl, v, _, rfl, .ref p, _, rfl, rfl, ⟨(d, ds), kd, ks⟩, a2.go (.new ht)⟩⟩) (hs_ex fun z => k z.1.1 z.1.2 z.2.1 z.2.2)
/-- x, y = a, b, by way of the pair; two data -/
theorem hs_parTD (i j : Nat) (ha : PE X a (tN (pw X) (vis r) K1)) (hb : PE X b (tN (pw X) (vis r) K2)) (hg : PG X (.Tuple [.Name x px, .Name y py] kt pt) (gTup X.K 2 (gCons (gName i) (gCons (gName j) gNil)))) (k : ∀ d d2, K1 d → K2 d2 → Hs X rest (At (pw X) W H0 ((r.set i (.val d)).set j (.val d2))) E)
    (h1 : starEach [a, b] X.env = (false, eval a X.env) :: starEach [b] X.env := by rfl) (h2 : starEach [b] X.env = (false, eval b X.env) :: starEach [] X.env := by rfl)
    (hs : swapsWithSole [.Tuple [.Name x px, .Name y py] kt pt] (.Tuple [a, b] k2 pt2) pos.line X.env = pure false := by rfl) (hw : swappedStores [.Tuple [.Name x px, .Name y py] kt pt] (.Tuple [a, b] k2 pt2) X.env = pure none := by rfl)
    (h3 : (assignEach [.Tuple [.Name x px, .Name y py] kt pt] X.env).map (·.2) = [assign (.Tuple [.Name x px, .Name y py] kt pt) X.env] := by rfl) :
    Hs X (.Assign [.Tuple [.Name x px, .Name y py] kt pt] (.Tuple [a, b] k2 pt2) pos :: rest) (At (pw X) W H0 r) E :=
  hs_cons (M := fun σ H => ∃ z : { z : D × D // K1 z.1 ∧ K2 z.2 }, At (pw X) W H0 ((r.set i (.val z.1.1)).set j (.val z.1.2)) σ H) (ps_asg (pe_tup (pa_cons ha (pa_cons hb pa_nil h2) h1)) hg hs hw h3)
    (fun σ H at0 => at0.pairD i j fun v w H2 d d2 kd ks a2 => ⟨(by show 2 ≤ sizeLine; exact Nat.le_of_ble_eq_true rfl), fun t ht => ⟨t, [v, w], rfl, .of upd_same, rfl, v, _, rfl, w, _, rfl, rfl, ⟨(d, d2), kd, ks⟩, a2.go (.new ht)⟩⟩) (hs_ex fun z => k z.1.1 z.1.2 z.2.1 z.2.2)
/-- name = [f x for x in xs if b x] on one line, the name a local -/
theorem hs_setL {α : Type} {elt tg iter : Expr} {ifs : List Expr} {scope : Scope} {own : List (Str × Nat)} {pos pos' : Pos} {g : TG} (i : Nat) (xs : List α) (enc : α → D) (u : α → List (Nat × D)) (b : α → Bool) (f : α → D)
    (hc : X.calm = true) (hN : X.N.Nodup) (hi : PI X tg iter (tI (pw X) (vis r) (xs.map enc))) (ok : BlkOk X.N X.env.scope scope own)
    (hg : ∀ (s : Shared) (H : Hp) (C : Addr) (cl : List (Str × Addr)) (fp : List Addr), PG (X.blk s H scope (compEnvC scope cl C X.env) fp) tg g) (gd : ∀ x ∈ xs, GD (pw X) g (enc x) (u x)) (hu : ∀ x ∈ xs, ∀ p ∈ u x, p.1 ∈ own.map (·.2))
    (ht : ∀ x ∈ xs, ∀ (s : Shared) (H : Hp) (C : Addr) (cl : List (Str × Addr)) (fp : List Addr), PTs (X.blk s H scope (compEnvC scope cl C X.env) fp) ifs (tT (pw X) (setsO (u x) (wipeO (vis r) (own.map (·.2)))) (b x)))
    (he : ∀ x ∈ xs, b x = true → ∀ (s : Shared) (H : Hp) (C : Addr) (cl : List (Str × Addr)) (fp : List Addr), PE (X.blk s H scope (compEnvC scope cl C X.env) fp) elt (tD (pw X) (setsO (u x) (wipeO (vis r) (own.map (·.2)))) (f x)))
    (hz : xs.length < sizeLine) (hr : i < r.length) (k : Hs X rest (At (pw X) W H0 (r.set i (.val (.lst ((xs.filter b).map f))))) E)
    (hsw : swapsWith (.ListComp elt [⟨tg, iter, ifs, 0⟩] scope pos) (some (.Name x py)) pos'.line X.env = pure true) (hy : X.N[i]? = some x := by rfl) (hyl : X.env.scope.names.lookup x = some .local := by rfl) (hs : ∀ x, foldedSetIterable iter X.env x = pure x := by intro _; rfl) :
    Hs X (.Assign [.Name x py] (.ListComp elt [⟨tg, iter, ifs, 0⟩] scope pos) pos' :: rest) (At (pw X) W H0 r) E :=
  hs_setLc i xs enc u b (fun x d => d = f x) hc hN hi ok hg gd hu ht he hz hr (fun ds h => by rw [compK_det h]; exact k) hsw hy hyl hs
end
end PD

set_option Elab.async false
set_option linter.all false
set_option maxRecDepth 100000
set_option maxHeartbeats 2000000
/-! Pd22: a new list of flat data, made by reading a list that is being built. -/
namespace PD
open PySem L2
mutual
/-- no list, dict or object within -/
def noL : D → Bool
  | .non => true
  | .bl _ => true
  | .int _ => true
  | .str _ => true
  | .tup ds => noLs ds
  | .ktp ds => noLs ds
  | .lst _ => false
  | .dct _ => false
  | .ins _ _ => false
  | .src => false
  | .dki _ => false
  | .flst _ => false
  | .adr _ => true
def noLs : List D → Bool
  | [] => true
  | d :: ds => noL d && noLs ds
end
section
variable {M : MW} {W W' : Wd} {H : Hp} {q : Addr} {us : List V}
mutual
theorem Rep.noL (hq : H q = some (.lst us)) (k : ∀ a, ¬ W.S a → a ≠ q → ¬ W'.S a) : ∀ (d : D) (v : V), PD.noL d = true → Rep M W H d v → Rep M W' H d v
  | .non, v, _, h => h
  | .bl b, v, _, h => h
  | .int i, v, _, h => h
  | .str x, v, _, h => h
  | .tup ds, v, n, h => by
    obtain ⟨a, vs, e, na, h1, h2⟩ := h
    rw [PD.noL] at n
    exact ⟨a, vs, e, k a na (fun z => by rw [z, hq] at h1; cases h1), h1, RepL.noL hq k ds vs n h2⟩
  | .lst ds, v, n, h => by rw [PD.noL] at n; cases n
  | .dct kvs, v, n, h => by rw [PD.noL] at n; cases n
  | .ins C fs, v, n, h => by rw [PD.noL] at n; cases n
  | .src, v, n, h => by rw [PD.noL] at n; cases n
  | .dki kvs, v, n, h => by rw [PD.noL] at n; cases n
  | .ktp ds, v, n, h => by
    obtain ⟨a, vs, e, na, ⟨o, od, h1⟩, h2⟩ := h
    rw [PD.noL] at n
    exact ⟨a, vs, e, k a na (fun z => by rw [z, hq] at h1; cases h1), ⟨o, od, h1⟩, RepL.noL hq k ds vs n h2⟩
  | .flst ds, v, n, h => by rw [PD.noL] at n; cases n
  | .adr a, v, _, h => h
theorem RepL.noL (hq : H q = some (.lst us)) (k : ∀ a, ¬ W.S a → a ≠ q → ¬ W'.S a) : ∀ (ds : List D) (vs : List V), PD.noLs ds = true → RepL M W H ds vs → RepL M W' H ds vs
  | [], vs, _, h => h
  | d :: ds, vs, n, h => by
    obtain ⟨v, r, e, h1, h2⟩ := h
    rw [PD.noLs, Bool.and_eq_true] at n
    exact ⟨v, r, e, Rep.noL hq k d v n.1 h1, RepL.noL hq k ds r n.2 h2⟩
end
end
theorem noLs_all {ds : List D} : noLs ds = ds.all noL := by
  induction ds with
  | nil => rfl
  | cons d ds ih => rw [noLs, List.all_cons, ih]
section
variable {X : Cx} {W : Wd} {H0 : Hp} {r : List Slot} {rest : List Stmt} {E : Ends} {e : Expr} {pos pos' : Pos} {x : Str} {ds : List D}
/-- name = a new list of flat data, made by reading the list that is being built at slot i -/
theorem hs_setNV (i j : Nat) {Ks : List D → Prop} (hr : r[i]? = some (.own ds)) (he : PE X e (tF (pw X) (vis (r.set i (.val (.lst ds)))) Ks)) (nl : ∀ es, Ks es → noLs es = true) (k : ∀ es, Ks es → Hs X rest (At (pw X) W H0 (r.set j (.val (.lst es)))) E) (hN : X.N.Nodup) (hi : X.N[j]? = some x := by rfl) (hx : Loc X.env.scope x := by first | exact .inl rfl | exact .inr rfl)
    (hs : swapsWith e (some (.Name x pos')) pos.line X.env = pure false := by rfl) (hf : X.fn x = true ∨ X.env.scope.names.lookup x = some .local := by first | exact .inl rfl | exact .inr rfl | assumption) :
    Hs X (.Assign [.Name x pos'] e pos :: rest) (At (pw X) W H0 r) E := by
  refine hs_cons (M := fun σ H => ∃ d : { d // Ks d }, At (pw X) W H0 (r.set j (.val (.lst d.1))) σ H) (ps_set hN hi hx he hs hf) (fun σ H a => ?_) (hs_ex fun d => k d.1 d.2)
  obtain ⟨own, a⟩ := a
  obtain ⟨v1, v2, v3⟩ := a.view hr (s := .own ds) rfl
  refine ⟨_, v1, v2, fun p vs H2 es ks hp e2 h2 rs => ?_⟩
  have a2 := v3 H2 e2
  obtain ⟨q, us, h1, _, h3, _⟩ := a2.sl i _ hr
  have np : ¬ (W.adds (OwnS own)).S p := a.ok'.nS hp
  refine ⟨⟨es, ks⟩, At.set a2 ⟨p, vs, rfl, np, h2, ?_⟩⟩
  refine RepL.noL h3 (fun b nb nq z => ?_) es vs (nl es ks) rs
  rcases z with z | ⟨l, z⟩
  · exact nb (.inl (.inl z))
  · by_cases hl : l = i
    · subst hl
      rw [h1] at z; cases z
      exact nq rfl
    · exact nb (.inl (.inr ⟨l, by rw [ownSet_ne hl]; exact z⟩))
end
end PD

set_option Elab.async false
set_option linter.all false
set_option maxRecDepth 100000
set_option maxHeartbeats 2000000
/-! Pd23: sources of draws: reading and changing them; tests that go either way; a source made anew. -/
namespace PD
open PySem L2 PySem.Spec PyProof.Rows
def spG (M : MW) {ι : Type} (args : ι → List D) (pre : ι → Prop) (post : Wd → Hp → ι → V → Hp → Prop) : Sp := fun vs H Q _ => ∃ (W : Wd) (i : ι), W.ok H ∧ pre i ∧ RepL M W H (args i) vs ∧ ∀ v H', post W H i v H' → Q v H'
theorem fn_G {P : Program} {w : World} {K : PySem.W.Frag} {mg : Str → Option Value} {base : Heap} {x qual : Str} {st : Stmt} {f : Addr} {fd : FuncData} {N ps : List Str} {k : Nat} {ι : Type} {args : ι → List D} {pre : ι → Prop} {post : Wd → Hp → ι → V → Hp → Prop} (F : Fun K x qual st f fd) (S : FnScope N ps (defScope st)) (hl : ∀ i, (args i).length = ps.length)
    (hN : ps.length ≤ N.length)
    (body : ∀ (cdv : Value) (A : Around) (outer : List Env) (s : Shared) (H : Hp) (E : XK) (W : Wd) (H0 : Hp) (i : ι), Room k (A.deeper (envOfC qual (defScope st) s.heap.objs.size f cdv)) → pre i →
      Hs (cxOf CX0 P w K mg base N qual (defScope st) f cdv A outer s H E).nox (defBody st) (At ⟨P, w⟩ W H0 ((args i).map Slot.val ++ List.replicate (N.length - ps.length) Slot.none)) { nx := fun _ H' => post W H0 i .non H', rt := post W H0 i }) :
    FnOk P w K mg base CX0 (k + 1) f fd ps (spG ⟨P, w⟩ args pre post) := by
  refine F.ok S (fun vs H Q E h => ?_) (fun cdv A outer s H vs Q E hr h => ?_)
  · obtain ⟨W, i, _, _, rs, _⟩ := h
    rw [rs.length]
    exact hl i
  · obtain ⟨W, i, ok, hp, rs, q⟩ := h
    refine ⟨_, pss_hs (ι := Unit) fun _ => body cdv A outer s H E W H i hr hp, (), ?_, fun σ H' h => ?_, fun v H' h => ?_, fun _ _ h => h, fun _ _ h => h⟩
    · have hv : vs.length = ps.length := by rw [rs.length, hl i]
      refine ⟨fun _ => none, ok, .refl _ _, ?_, fun _ _ _ h => (nomatch h), fun _ _ h => (nomatch h), fun _ _ h => (nomatch h), fun j s' h => ?_⟩
      · unfold L2.start
        rw [List.length_append, List.length_append, List.length_map, List.length_map, List.length_replicate, List.length_replicate, hl i, hv]
      · unfold L2.start
        have e0 : (args i).length = vs.length := rs.length.symm
        by_cases hj : j < vs.length
        · rw [List.getElem?_append_left (by rw [List.length_map, e0]; exact hj)] at h
          rw [List.getElem?_append_left (by rw [List.length_map]; exact hj)]
          rw [List.getElem?_map] at h ⊢
          cases q' : (args i)[j]? with
          | none => rw [q'] at h; cases h
          | some d =>
            rw [q'] at h
            have h : some (Slot.val d) = some s' := h
            cases h
            obtain ⟨v, h1, h2⟩ := rs.get q'
            rw [h1]
            exact ⟨rfl, v, rfl, Rep.car (Car.newS fun p ⟨_, z⟩ => nomatch z) d v h2⟩
        · rw [List.getElem?_append_right (by rw [List.length_map, e0]; omega)] at h
          have hs' : s' = Slot.none := by
            have h1 := List.mem_of_getElem? h
            exact (List.mem_replicate.mp h1).2
          subst hs'
          rfl
    · exact q _ H' h
    · exact q v H' h
/-- a test that may go either way -/
def tTN (M : MW) (r : List (Option D)) : TT := fun σ H Q => ∃ W, Slots M W H r σ ∧ W.ok H ∧ ∀ b H2, Ext W H H2 → Q b H2
section
variable {X : Cx} {M : MW} {r : List (Option D)} {K Ka Kb : D → Prop} {a b e : Expr} {pos pos' : Pos} {d da db : D} {ds : List D}
theorem td_cmpN {op : CmpOp} {rr : R2} (ho : OpR X (compareOp op) rr) (ha : PE X a (tN M r Ka)) (hb : PE X b (tN M r Kb)) (h : ∀ dx dy, Ka dx → Kb dy → Op2 M rr dx dy (fun x => ∃ k, x = .bl k)) (hm : behindInMarks op b = false) : PT X (.Compare a [op] [b] pos) (tTN M r) :=
  (pt_cmpR ho ha hb hm).wk fun σ H Q ⟨W, hs, ok, q⟩ => tOp_N (K := fun x => ∃ k, x = .bl k) h σ H _ ⟨W, hs, ok, fun v H2 d ⟨k, e⟩ e1 rv => by subst e; exact ⟨k, rv, q k H2 e1⟩⟩
def IntD (d : D) : Prop := ∃ z, d = .int z
theorem td_geN (ha : PE X a (tN M r IntD)) (hb : PE X b (tN M r IntD)) : PT X (.Compare a [.GtE] [b] pos) (tTN M r) := td_cmpN op_ge ha hb (fun dx dy ⟨i, e1⟩ ⟨j, e2⟩ => by subst e1; subst e2; exact Op2.imp (op2_I0 (dd := .bl (decide (j ≤ i))) fun _ _ => rfl) fun d e => ⟨_, e⟩) (nomark _)
theorem td_eqN (ha : PE X a (tN M r IntD)) (hb : PE X b (tN M r IntD)) : PT X (.Compare a [.Eq] [b] pos) (tTN M r) := td_cmpN op_eq ha hb (fun dx dy ⟨i, e1⟩ ⟨j, e2⟩ => by subst e1; subst e2; exact Op2.imp op2_eq fun d e => ⟨_, e⟩) (nomark _)
/-- an item of a source -/
theorem ed_srcIx {i : Int} (ha : PE X a (tD M r .src)) (hb : PE X b (tD M r (.int i))) (h : 0 ≤ i ∧ i ≤ 2) (hs : PlainIx b := by exact fun _ _ => rfl) : PE X (.Subscript a b pos) (tN M r IntD) :=
  (pe_ix ix_list ha hb hs).wk (tOp_D fun W H x y Q ok rx ry q => by
    obtain ⟨p, e, t⟩ := rx
    obtain ⟨x0, y0, n0, hp⟩ := ok.src p t
    have hi : i = 0 ∨ i = 1 ∨ i = 2 := by omega
    rcases hi with z | z | z <;> subst z
    · exact ⟨p, _, 0, .int x0, e, ry, .of hp, rfl, q _ H _ ⟨x0, rfl⟩ (.refl _ _) rfl⟩
    · exact ⟨p, _, 1, .int y0, e, ry, .of hp, rfl, q _ H _ ⟨y0, rfl⟩ (.refl _ _) rfl⟩
    · exact ⟨p, _, 2, .int n0, e, ry, .of hp, rfl, q _ H _ ⟨n0, rfl⟩ (.refl _ _) rfl⟩)
/-- an item of a list at some index -/
theorem ed_ixAny (ha : PE X a (tD M r (.lst ds))) (hb : PE X b (tN M r Kb)) (h : ∀ d, Kb d → ∃ i : Int, d = .int i ∧ 0 ≤ i ∧ i < ds.length) (hs : PlainIx b := by exact fun _ _ => rfl) : PE X (.Subscript a b pos) (tN M r (fun d => d ∈ ds)) :=
  (pe_ix ix_list ha hb hs).wk (tOp_N fun dx dy kx ky => by
    subst kx
    obtain ⟨i, e, h1, h2⟩ := h dy ky
    subst e
    have hl : i.toNat < ds.length := by omega
    refine Op2.imp (op2_ixL (d := ds[i.toNat]) ?_) fun d e => by rw [e]; exact List.getElem_mem hl
    unfold atI ixN
    rw [if_pos h1, if_pos h2]
    show ds[i.toNat]? = _
    exact List.getElem?_eq_getElem hl)
end
section
variable {X : Cx} {W : Wd} {H0 : Hp} {r : List Slot} {K : D → Prop} {rest : List Stmt} {E : Ends} {e : Expr} {pos pos' : Pos} {x : Str} {i : Nat} {d : D}
theorem hs_ifN {c : Expr} {s1 s2 : List Stmt} {M : L2.St → Hp → Prop} (hc : PT X c (tTN (pw X) (vis r))) (h1 : Hs X s1 (At (pw X) W H0 r) { E with nx := M }) (h2 : Hs X s2 (At (pw X) W H0 r) { E with nx := M }) (k : Hs X rest M E) : Hs X (.If c s1 s2 pos :: rest) (At (pw X) W H0 r) E := by
  refine hs_cons (M := M) (ps_if hc (pss_hs (ι := Unit) fun _ => h1) (pss_hs (ι := Unit) fun _ => h2)) (fun σ H a => ?_) k
  obtain ⟨own, a⟩ := a
  refine ⟨W.adds (OwnS own), a.slots, a.ok', fun b H2 e => ?_⟩
  cases b with
  | true => exact ⟨(), ⟨own, a.go (Ext.adds.mp e)⟩, Le.refl _⟩
  | false => exact ⟨(), ⟨own, a.go (Ext.adds.mp e)⟩, Le.refl _⟩
/-- source[i] = e -/
theorem hs_srcPut {o ie : Expr} {j : Int} (he : PE X e (tN (pw X) (vis r) IntD)) (ho : PE X o (tD (pw X) (vis r) .src)) (hi : PE X ie (tD (pw X) (vis r) (.int j))) (hj : 0 ≤ j ∧ j ≤ 2) (k : Hs X rest (At (pw X) W H0 r) E)
    (hg : ∀ v, assign (.Subscript o ie pos') X.env v = (do
      let ov ← holding [v] (eval o X.env)
      let iv ← holding [v, ov] (eval ie X.env)
      standAt pos'
      holding [v, ov, iv] (setItem ov iv v)
      release [v, ov, iv] []) := by intro _; rfl)
    (hs : swapsWithSole [.Subscript o ie pos'] e pos.line X.env = pure false := by rfl) (hw : swappedStores [.Subscript o ie pos'] e X.env = pure none := by rfl)
    (h1 : (assignEach [.Subscript o ie pos'] X.env).map (·.2) = [assign (.Subscript o ie pos') X.env] := by rfl) :
    Hs X (.Assign [.Subscript o ie pos'] e pos :: rest) (At (pw X) W H0 r) E := by
  refine hs_cons (M := At (pw X) W H0 r) (ps_asg he (pg_sub ho hi set_list hg) hs hw h1) (fun σ H a => ?_) k
  refine a.tN fun own v H2 d a kd rv => ?_
  obtain ⟨z, rfl⟩ := kd
  refine At.tN ⟨own, a⟩ fun own2 o2 H3 d2 a2 k2 r2 => ?_
  subst k2
  refine At.tN ⟨own2, a2⟩ fun own3 i3 H4 d3 a3 k3 r3 => ?_
  subst k3
  obtain ⟨p, ep, tp⟩ := r2
  obtain ⟨x0, y0, n0, hp⟩ := a3.okW.src p tp
  have tp : W.T p := tp
  have sa : ∀ vs : List V, (∃ x y n : Int, vs = [.int x, .int y, .int n]) → At (pw X) W H0 r σ (L2.upd H4 p (.lst vs)) := fun vs ⟨x, y, n, e⟩ => by
    refine ⟨own3, a3.go ⟨fun a o nt ha => ?_, fun a ta sa => ?_⟩⟩
    · rw [upd_ne fun z => nt (by rw [z]; exact tp)]; exact ha
    · by_cases z : a = p
      · subst z
        exact ⟨x, y, n, by rw [upd_same, e]⟩
      · obtain ⟨x', y', n', h'⟩ := sa
        exact ⟨x', y', n', by rw [upd_ne z]; exact h'⟩
  have rv' : v = V.int z := rv
  have hj' : j = 0 ∨ j = 1 ∨ j = 2 := by omega
  rcases hj' with q | q | q <;> subst q
  · exact ⟨p, _, 0, 0, ep, r3, hp, rfl, sa _ ⟨z, y0, n0, by rw [rv']; rfl⟩⟩
  · exact ⟨p, _, 1, 1, ep, r3, hp, rfl, sa _ ⟨x0, z, n0, by rw [rv']; rfl⟩⟩
  · exact ⟨p, _, 2, 2, ep, r3, hp, rfl, sa _ ⟨x0, y0, z, by rw [rv']; rfl⟩⟩
end
/-! ### a new source -/
mutual
/-- no source and no object within -/
def noS : D → Bool
  | .non => true
  | .bl _ => true
  | .int _ => true
  | .str _ => true
  | .tup ds => noSs ds
  | .lst ds => noSs ds
  | .ktp ds => noSs ds
  | .flst ds => noSs ds
  | .adr _ => true
  | .dct _ => false
  | .ins _ _ => false
  | .src => false
  | .dki _ => false
def noSs : List D → Bool
  | [] => true
  | d :: ds => noS d && noSs ds
end
section
variable {M : MW} {W W' : Wd} {H : Hp}
mutual
theorem Rep.noS (k : ∀ a, ¬ W.S a → ¬ W'.S a) : ∀ (d : D) (v : V), PD.noS d = true → Rep M W H d v → Rep M W' H d v
  | .non, v, _, h => h
  | .bl b, v, _, h => h
  | .int i, v, _, h => h
  | .str x, v, _, h => h
  | .tup ds, v, n, h => by
    obtain ⟨a, vs, e, na, h1, h2⟩ := h
    rw [PD.noS] at n
    exact ⟨a, vs, e, k a na, h1, RepL.noS k ds vs n h2⟩
  | .lst ds, v, n, h => by
    obtain ⟨a, vs, e, na, h1, h2⟩ := h
    rw [PD.noS] at n
    exact ⟨a, vs, e, k a na, h1, RepL.noS k ds vs n h2⟩
  | .dct kvs, v, n, h => by rw [PD.noS] at n; cases n
  | .ins C fs, v, n, h => by rw [PD.noS] at n; cases n
  | .src, v, n, h => by rw [PD.noS] at n; cases n
  | .dki kvs, v, n, h => by rw [PD.noS] at n; cases n
  | .ktp ds, v, n, h => by
    obtain ⟨a, vs, e, na, ⟨o, od, h1⟩, h2⟩ := h
    rw [PD.noS] at n
    exact ⟨a, vs, e, k a na, ⟨o, od, h1⟩, RepL.noS k ds vs n h2⟩
  | .flst ds, v, n, h => by
    obtain ⟨a, o, vs, e, na, h1, h2⟩ := h
    rw [PD.noS] at n
    exact ⟨a, o, vs, e, k a na, h1, RepL.noS k ds vs n h2⟩
  | .adr a, v, _, h => h
theorem RepL.noS (k : ∀ a, ¬ W.S a → ¬ W'.S a) : ∀ (ds : List D) (vs : List V), PD.noSs ds = true → RepL M W H ds vs → RepL M W' H ds vs
  | [], vs, _, h => h
  | d :: ds, vs, n, h => by
    obtain ⟨v, r, e, h1, h2⟩ := h
    rw [PD.noSs, Bool.and_eq_true] at n
    exact ⟨v, r, e, Rep.noS k d v n.1 h1, RepL.noS k ds r n.2 h2⟩
end
end
theorem noSs_all {ds : List D} : noSs ds = ds.all noS := by
  induction ds with
  | nil => rfl
  | cons d ds ih => rw [noSs, List.all_cons, ih]
def Wd.addT (W : Wd) (p : Addr) : Wd := ⟨fun a => W.S a ∨ a = p, fun a => W.T a ∨ a = p⟩
theorem Wd.ok.addT {W : Wd} {H : Hp} {p : Addr} (ok : W.ok H) (h : SrcAt H p) : (W.addT p).ok H where
  tr := fun a s => s.elim (ok.tr a) fun e => by subst e; obtain ⟨x, y, n, q⟩ := h; exact ⟨_, q⟩
  sub := fun a t => t.elim (fun z => .inl (ok.sub a z)) .inr
  src := fun a t => t.elim (ok.src a) fun e => by subst e; exact h
/-- what changes in the wider world changes nothing of the old one -/
theorem Ext.ofT {W : Wd} {H H1 H2 : Hp} {p : Addr} (hp : H p = none) (e1 : Ext W H H1) (e2 : Ext (W.addT p) H1 H2) : Ext W H H2 := by
  refine ⟨fun a o nt ha => e2.keep a o (fun t => t.elim nt fun z => ?_) (e1.keep a o nt ha), fun a t s => e2.src a (.inl t) (e1.src a t s)⟩
  rw [z, hp] at ha; cases ha
def flatS : Slot → Bool
  | .none => true
  | .val d => noS d
  | _ => false
/-- the result of making a source -/
def SrcMade (W : Wd) (H : Hp) (v : V) (H' : Hp) : Prop := ∃ p, v = .ref p ∧ H p = none ∧ Ext W H H' ∧ SrcAt H' p
abbrev spSrc (M : MW) : Sp := spG M (fun c : Int => [D.int c]) (fun _ => True) (fun W H _ v H' => SrcMade W H v H')
section
variable {X : Cx} {W : Wd} {H0 : Hp} {r : List Slot} {rest : List Stmt} {E : Ends} {e : Expr} {pos pos' p p2 pos2 : Pos} {x y : Str} {k1 k2 : Nat} {ps1 : List Str}
/-- the reading of a call that makes a source -/
theorem pe_src {r : List (Option D)} (S : Cal X.prog X.w X.K X.mg X.base k2 y ps1 (spSrc (pw X))) (hr : Room k2 X.A) (he : PE X e (tN (pw X) r IntD)) (hg : Gl X y := by rfl) (hdb : (y == ("__debug__" : Str)) = false := by decide) (hes : starEach [e] X.env = (false, eval e X.env) :: starEach [] X.env := by rfl) (hpl : (backTo pos (starEach [] X.env)).any (·.1) = false := by rfl) :
    PE X (.Call (.Name y p) [e] [] pos) (fun σ H Q => ∃ W, Slots (pw X) W H r σ ∧ W.ok H ∧ ∀ v H1 H2, Ext W H H1 → SrcMade W H1 v H2 → Q v H2) := by
  obtain ⟨f, fd, F, hm, hk, hb⟩ := S.ex
  exact (pe_call F hr hg hm hk hb .nil pass0 (pa_cons he pa_nil hes) hdb hes hpl).wk fun σ H Q ⟨W, hs, ok, q⟩ => ⟨W, hs, ok, fun v H1 d ⟨z, kd⟩ e1 rv => by
    subst kd
    exact ⟨W, z, ok.ext e1, trivial, ⟨v, [], rfl, rv, rfl⟩, fun v' H' h => q v' H1 H' e1 h⟩⟩
/-- f(_law_source(e)) -/
theorem ed_callSrc {r : List (Option D)} {ps2 : List Str} {b : Bool} (C : Cal X.prog X.w X.K X.mg X.base k1 x ps2 (spO (pw X) (fun _ : Unit => [D.src]) (fun _ => True) (fun _ d => d = .bl b))) (S : Cal X.prog X.w X.K X.mg X.base k2 y ps1 (spSrc (pw X))) (hr1 : Room k1 X.A) (hr2 : Room k2 X.A) (he : PE X e (tN (pw X) r IntD))
    (hg : Gl X x := by rfl) (hdb : (x == ("__debug__" : Str)) = false := by decide) (hg2 : Gl X y := by rfl) (hdb2 : (y == ("__debug__" : Str)) = false := by decide) (hes : starEach [e] X.env = (false, eval e X.env) :: starEach [] X.env := by rfl) (hpl2 : (backTo pos2 (starEach [] X.env)).any (·.1) = false := by rfl)
    (hes1 : starEach [.Call (.Name y p2) [e] [] pos2] X.env = (false, eval (.Call (.Name y p2) [e] [] pos2) X.env) :: starEach [] X.env := by rfl) (hpl : (backTo pos (starEach [] X.env)).any (·.1) = false := by rfl) :
    PE X (.Call (.Name x p) [.Call (.Name y p2) [e] [] pos2] [] pos) (tD (pw X) r (.bl b)) := by
  obtain ⟨f, fd, F, hm, hk, hb⟩ := C.ex
  exact (pe_call F hr1 hg hm hk hb .nil pass0 (pa_cons (pe_src S hr2 he hg2 hdb2 hes hpl2) pa_nil hes1) hdb hes1 hpl).wk fun σ H Q ⟨W, hs, ok, q⟩ => ⟨W, hs, ok, fun v H1 H2 e1 ⟨p, ev, hp, e2, hs2⟩ => by
    subst ev
    refine ⟨W.addT p, (), ((ok.ext e1).ext e2).addT hs2, trivial, ⟨.ref p, [], rfl, ⟨p, rfl, .inr rfl⟩, rfl⟩, fun v' H' d kd e3 rv => ?_⟩
    subst kd
    refine q v' H' _ rfl (e1.trans (Ext.ofT hp e2 e3)) rv⟩
/-- name = _law_source(e), and all that follows in the wider world -/
theorem hs_src (i : Nat) {Rn : List Slot → Prop} {K' : D → Prop} {ce : Expr} (hce : PE X ce (fun σ H Q => ∃ W, Slots (pw X) W H (vis r) σ ∧ W.ok H ∧ ∀ v H1 H2, Ext W H H1 → SrcMade W H1 v H2 → Q v H2))
    (hr : r.all flatS = true) (k : ∀ W' H1', Hs X rest (At (pw X) W' H1' (r.set i (.val .src))) { nx := fun σ H => ∃ r', Rn r' ∧ At (pw X) W' H1' r' σ H, ct := fun σ H => ∃ r', Rn r' ∧ At (pw X) W' H1' r' σ H, rt := Rt (pw X) W' H1' K' })
    (hRn : ∀ r', Rn r' → r'.all flatS = true) (hK : ∀ d, K' d → noS d = true) (hN : X.N.Nodup) (hi : X.N[i]? = some x := by rfl) (hx : Loc X.env.scope x := by first | exact .inl rfl | exact .inr rfl)
    (hs : swapsWith ce (some (.Name x pos')) pos.line X.env = pure false := by rfl) (hf : X.fn x = true ∨ X.env.scope.names.lookup x = some .local := by first | exact .inl rfl | exact .inr rfl | assumption) :
    Hs X (.Assign [.Name x pos'] ce pos :: rest) (At (pw X) W H0 r) { nx := fun σ H => ∃ r', Rn r' ∧ At (pw X) W H0 r' σ H, ct := fun σ H => ∃ r', Rn r' ∧ At (pw X) W H0 r' σ H, rt := Rt (pw X) W H0 K' } := by
  refine hs_cons (M := fun σ H => ∃ z : { z : Addr × Hp // H0 z.1 = none ∧ Ext W H0 z.2 ∧ W.ok H0 ∧ SrcAt z.2 z.1 }, At (pw X) (W.addT z.1.1) z.1.2 (r.set i (.val .src)) σ H) (ps_set hN hi hx hce hs hf) (fun σ H a => ?_) (hs_ex fun z => ?_)
  · obtain ⟨own, a⟩ := a
    have nown : ∀ j p, own j ≠ some p := fun j p e => by
      have hb := a.bnd j p e
      have hj : r[j]? = some r[j] := List.getElem?_eq_getElem hb
      have fl := List.all_eq_true.mp hr _ (List.mem_of_getElem? hj)
      have so := a.sl j _ hj
      generalize r[j] = sj at fl so
      cases sj with
      | none => rw [so] at e; cases e
      | val d => rw [so.1] at e; cases e
      | own ds => cases fl
      | ownD ds => cases fl
      | ownI ds => cases fl
      | selfS _ _ _ _ _ => cases fl
    refine ⟨W.adds (OwnS own), a.slots, a.ok', fun v H1 H2 e1 ⟨p, ev, hp, e2, hs2⟩ => ?_⟩
    subst ev
    have e01 : Ext W H0 H1 := a.ext.trans (Ext.adds.mp e1)
    have e02 : Ext W H0 H2 := e01.trans (Ext.adds.mp e2)
    have hp0 : H0 p = none := e01.free a.ok hp
    have a2 := a.go (Ext.adds.mp (e1.trans e2))
    refine ⟨⟨(p, H2), hp0, e02, a.ok, hs2⟩, fun _ => none, ((a.ok.ext e02).addT hs2), .refl _ _, by rw [List.length_set, List.length_set]; exact a.len, fun _ _ _ h => (nomatch h), fun _ _ h => (nomatch h), fun _ _ h => (nomatch h), fun j s' h => ?_⟩
    by_cases q : i = j
    · subst q
      by_cases hl : i < r.length
      · rw [List.getElem?_set_self hl] at h
        cases h
        refine ⟨rfl, .ref p, List.getElem?_set_self (by rw [← a.len]; exact hl), p, rfl, .inr rfl⟩
      · rw [List.getElem?_eq_none (by rw [List.length_set]; omega)] at h; cases h
    · rw [List.getElem?_set_ne q] at h ⊢
      have fl := List.all_eq_true.mp hr _ (List.mem_of_getElem? h)
      have so := a2.sl j s' h
      cases s' with
      | none => rfl
      | val d =>
        obtain ⟨_, v, hv, rv⟩ := so
        refine ⟨rfl, v, hv, ?_⟩
        have rv0 : Rep (pw X) (W.adds (OwnS own)) H1 d v := by
          have so1 := (a.go (Ext.adds.mp e1)).sl j _ h
          obtain ⟨_, v1, hv1, rv1⟩ := so1
          rw [hv] at hv1
          have : v = v1 := by simpa using hv1
          rw [this]; exact rv1
        have car : Car (W.adds (OwnS own)) ((W.addT p).adds (OwnS fun _ => none)) H1 H2 := by
          refine ⟨fun b o n hb => ⟨(Ext.adds.mp e2).keep b o (fun t => n (Or.inl ((a.ok.ext e01).sub b t))) hb, fun z => ?_⟩, fun b t => .inl t⟩
          rcases z with (z | z) | ⟨l, z⟩
          · exact n (.inl z)
          · rw [z, hp] at hb; cases hb
          · cases z
        exact Rep.car car d v rv0
      | own ds => cases fl
      | ownD ds => cases fl
      | ownI ds => cases fl
      | selfS _ _ _ _ _ => cases fl
  · obtain ⟨⟨p, H1'⟩, hp0, e0, ok0, hs2⟩ := z
    have back : ∀ r' σ H, Rn r' → At (pw X) (W.addT p) H1' r' σ H → At (pw X) W H0 r' σ H := fun r' σ H hR ⟨own, a⟩ => by
      have hfl := hRn r' hR
      refine ⟨fun _ => none, ok0, Ext.ofT hp0 e0 a.ext, a.len, fun _ _ _ h => (nomatch h), fun _ _ h => (nomatch h), fun _ _ h => (nomatch h), fun j s' h => ?_⟩
      have fl := List.all_eq_true.mp hfl _ (List.mem_of_getElem? h)
      have so := a.sl j s' h
      cases s' with
      | none => rfl
      | val d =>
        obtain ⟨_, v, hv, rv⟩ := so
        refine ⟨rfl, v, hv, Rep.noS (fun b nb z => ?_) d v fl rv⟩
        rcases z with z | ⟨l, z⟩
        · exact nb (.inl (.inl z))
        · cases z
      | own ds => cases fl
      | ownD ds => cases fl
      | ownI ds => cases fl
      | selfS _ _ _ _ _ => cases fl
    refine hs_post ?_ (k (W.addT p) H1')
    refine ⟨fun σ H ⟨r', hR, h⟩ => ⟨r', hR, back r' σ H hR h⟩, fun v H ⟨d, h1, h2, h3⟩ => ⟨d, h1, Ext.ofT hp0 e0 h2, Rep.noS (W := W.addT p) (W' := W) (fun b nb z => nb (Or.inl z)) d v (hK d h1) h3⟩, fun _ _ h => h, fun σ H ⟨r', hR, h⟩ => ⟨r', hR, back r' σ H hR h⟩⟩
end
end PD

set_option Elab.async false
set_option linter.all false
set_option maxRecDepth 100000
set_option maxHeartbeats 1000000
/-! Pd24: the list of cells that the law is called with: a frozen list of the heap, or a list of the written part. -/
namespace PD
open PySem L2 PySem.Spec PyProof.Rows
/-- a list of ints in the written part -/
def KLst (K : PySem.W.Frag) (a : Addr) (ns : List Int) : Prop := ∃ (o : Obj) (its : Array Value) (n : Nat), K.lookup a = some o ∧ o.cls = .type "list" ∧ o.dict = none ∧ o.data = .seq its n ∧ its.size ≤ sizeLine ∧ Vals (ns.map V.int) its.toList
def Scr (K : PySem.W.Frag) (d : D) (ns : List Int) : Prop := d = .flst (ns.map D.int) ∨ ∃ a, d = .adr a ∧ KLst K a ns
section
variable {M : MW} {W : Wd} {H : Hp}
theorem repL_int : ∀ ns : List Int, RepL M W H (ns.map D.int) (ns.map V.int)
  | [] => rfl
  | n :: ns => ⟨.int n, ns.map V.int, rfl, rfl, repL_int ns⟩
theorem repL_int_of : ∀ {ns : List Int} {vs : List V}, RepL M W H (ns.map D.int) vs → vs = ns.map V.int
  | [], vs, h => h
  | n :: ns, vs, h => by
    obtain ⟨v, r, e, h1, h2⟩ := h
    rw [e, show v = V.int n from h1, repL_int_of h2]; rfl
theorem Scr.sq {K : PySem.W.Frag} {d : D} {ns : List Int} {v : V} (h : Scr K d ns) (rv : Rep M W H d v) : ∃ a, v = .ref a ∧ SqL K H a (ns.map V.int) := by
  rcases h with e | ⟨a, e, hk⟩
  · subst e
    obtain ⟨a, o, vs, e, n, h1, h2⟩ := rv
    rw [repL_int_of h2] at h1
    exact ⟨a, e, .inl (.inr ⟨o, h1⟩)⟩
  · subst e
    exact ⟨a, rv, .inr hk⟩
theorem Scr.noS {K : PySem.W.Frag} {d : D} {ns : List Int} (h : Scr K d ns) : PD.noS d = true := by
  rcases h with e | ⟨a, e, _⟩
  · subst e
    show noSs _ = true
    induction ns with
    | nil => rfl
    | cons n ns ih => show (true && noSs (ns.map D.int)) = true; rw [ih]; rfl
  · subst e; rfl
end
def rCatS (K : PySem.W.Frag) : R2 := fun x y H Q => ∃ l b xs zs, x = .ref l ∧ y = .ref b ∧ H l = some (.lst xs) ∧ SqL K H b zs ∧ xs.length + zs.length ≤ sizeLine ∧ ∀ p, H p = none → Q (.ref p) (upd H p (.lst (xs ++ zs)))
section
variable {X : Cx}
theorem op_catS : OpR X (binaryOp .Add) (rCatS X.K) := by
  intro pins s σ H x y v u Q I rx ry h
  obtain ⟨l, b, xs, zs, rfl, rfl, hH, hB, hz, q⟩ := h
  cases rx
  cases ry
  obtain ⟨z, its, n, r, hl, e⟩ := I.lstM hH
  obtain ⟨its2, r2, p2, hz2⟩ := I.list hB
  obtain ⟨⟨cls2, dd2, data2, sl2⟩, ho2, hc2, n2, hd2⟩ := p2.isList
  simp only at hc2 hd2
  subst hc2 hd2
  have hl2 := r2.length
  refine concat_meets ⟨_, e, rfl⟩ ⟨_, ho2, rfl⟩ noFill_list_add seq_list_add PySem.F.slot_list_add PySem.F.entry_list_add (PySem.F.args_list_add_2 _ _) (list_addW l b its.toArray its2.toArray n n2 none dd2 #[] sl2 (by simp only [List.size_toArray]; omega)) ⟨e, ho2, ?_⟩
  have ea : its.toArray ++ its2.toArray = (its ++ its2).toArray := by simp
  rw [ea]
  exact ⟨.ref _, _, I.lnew (t' := s.toks) (r.append r2) (by rw [List.length_append]; omega), rfl, q _ I.fresh⟩
end
section
variable {X : Cx} {M : MW} {r : List (Option D)} {a b e : Expr} {pos : Pos} {ds : List D} {d : D} {ns : List Int}
theorem ed_catS (hsc : Scr X.K d ns) (ha : PE X a (tD M r (.lst ds))) (hb : PE X b (tD M r d)) (hz : ds.length + ns.length ≤ sizeLine) : PE X (.BinOp a .Add b pos) (tF M r (fun x => x = ds ++ ns.map D.int)) :=
  (pe_op op_catS ha hb).wk fun σ H Q ⟨W, hs, ok, q⟩ => ⟨W, hs, ok, fun v H1 dx kx e1 rv => ⟨W, hs.ext ok e1, ok.ext e1, fun w H2 dy ky e2 rw' => by
    subst kx; subst ky
    have rv2 := rv.ext (ok.ext e1) e2
    obtain ⟨a, us, ev, n, h1, h2⟩ := rv2
    obtain ⟨b, ew, h1'⟩ := hsc.sq rw'
    refine ⟨a, b, us, ns.map V.int, ev, ew, h1, h1', by rw [h2.length, List.length_map]; exact hz, fun p hp => ?_⟩
    exact q p _ _ _ rfl ((e1.trans e2).free ok hp) ((e1.trans e2).trans (.new hp)) upd_same (RepL.car ((Car.new hp).trans (Car.upd (W := W.add p) (.inr rfl))) _ _ (h2.append (repL_int ns)))⟩⟩
theorem ed_sliceS {lo hi : Option Expr} {l h : Option Int} {p2 : Pos} (hsc : Scr X.K d ns) (ha : PE X e (tD M r d)) (hl : PO X lo (tPN M r l)) (hh : PO X hi (tPN M r h)) : PE X (.Subscript e (.Slice lo hi none p2) pos) (tF M r (fun x => x = cutD (ns.map D.int) l h)) :=
  (pe_slice sl_list ha hl hh).wk fun σ H Q ⟨W, hs, ok, q⟩ => ⟨W, hs, ok, fun v H1 dx kx e1 rv => ⟨W, hs.ext ok e1, ok.ext e1, fun H2 e2 => ⟨W, (hs.ext ok e1).ext (ok.ext e1) e2, (ok.ext e1).ext e2, fun H3 e3 => by
    subst kx
    obtain ⟨a, ev, h1⟩ := hsc.sq ((rv.ext (ok.ext e1) e2).ext ((ok.ext e1).ext e2) e3)
    have e123 := (e1.trans e2).trans e3
    exact ⟨a, _, ev, h1, fun p hp => q p _ _ _ rfl (e123.free ok hp) (e123.trans (.new hp)) upd_same (RepL.car ((Car.new hp).trans (Car.upd (W := W.add p) (.inr rfl))) _ _ (repL_int ns).cut)⟩⟩⟩⟩
end
end PD

set_option Elab.async false
set_option linter.all false
set_option maxRecDepth 100000
set_option maxHeartbeats 2000000
/-! X1: the error InvalidNumber, by the block of skel/42. -/
namespace PySem
namespace LowX
open PySem.W PySem.Calls PyProof.Rows PySem.HandSPX
/-! ### the text of __init__ -/
def iA (p1 p2 : Pos) : Arguments := { posonlyargs := [], args := [{ arg := "self", annotation := none, pos := p1 }, { arg := "name", annotation := none, pos := p2 }], vararg := none, kwonlyargs := [], kw_defaults := [], kwarg := none, defaults := [] }
def iB (q1 q2 q3 q4 : Pos) : List Stmt := [.Assign [.Attribute (.Name "self" q1) "name" q2] (.Name "name" q3) q4]
def iS : Scope := { kind := .function, names := [(PySem.Str.ofString "self", .local), (PySem.Str.ofString "name", .local)], isGenerator := false, isCoroutine := false, more := [] }
/-- what the written part says of Low, at C, and of its __init__, at fI -/
structure LowTxt (K : Frag) (mg : Str → Option Value) (C fI : Addr) : Prop where
  gC : mg "InvalidNumber" = some (.ref C)
  cls : ∃ nm q N bs bm sn sub ab col dd k0 k1 k2 k3 k5, K.lookup C = some (excClassObj nm q C N bs bm true sn sub ab col dd k0 k1 k2 k3 k5 "ValueError.__new__") ∧ refsVE bm = true
  sa : findIn K (.ref C) "__setattr__" = some (some (.builtin "object.__setattr__"))
  ga : findIn K (.ref C) "__getattribute__" = some (some (.builtin "BaseException.__getattribute__"))
  gg : findIn K (.ref C) "__getattr__" = some none
  noN : findIn K (.ref C) "name" = some none
  iC : findIn K (.ref C) "__init__" = some (some (.ref fI))
  tC : typeIn K (.ref fI) = some (.type "function")
  kC : keepIn K (.ref C) = true
  exC : subIn K (.ref C) (.type "BaseException") = some true
  tyC : typeIn K (.ref C) = some (.type "type")
  hdC : hasDictIn K C = true
  te : exmOne K (.ref C) (.ref C) = some true
  fn : ∃ (oc : Value) (od : Option Addr) (doc pm : Value) (an : Option Addr) (cdv ct : Value) (osl : Array (Option Value)) (p1 p2 q1 q2 q3 q4 : Pos),
    K.lookup fI = some ⟨oc, od, .func (fnOf "__init__" "InvalidNumber.__init__" (iA p1 p2) (iB q1 q2 q3 q4) iS .none .none doc pm an cdv ct), osl⟩ ∧ codeIn K cdv "InvalidNumber.__init__" = true
theorem one_size (v : Value) : [v].length ≤ sizeLine := by
  rw [sizeLine_eq]
  exact (by decide : 1 ≤ 16777216)
theorem kept_but {K : Frag} {h h' : Heap} {x : Addr} (X : K.In h) (hx : K.lookup x = none) (k : ∀ b o, b ≠ x → h.get? b = some o → h'.get? b = some o) : K.In h' := fun a o e =>
  k a o (fun z => by rw [z, hx] at e; cases e) (X a o e)
theorem ldC {M : Model} {s : Shared} {name : Str} {scope : Scope} {L a : Addr} {cd : Value} {m : Str → Option Value} {x : Str} {pos : Pos} {v : Value} {Q : Value → Shared → Prop} {A : Around} {E : Value → Shared → Prop} (hn : s.heap.Ns L m) (hv : m x = some v) (h : Q v s)
    (hk : scope.kind = .function := by rfl) (hl : (envOfC name scope L a cd).kindOf x = some .local := by rfl) (hd : (x == ("__debug__" : Str)) = false := by decide) :
    wpAny M A (eval (.Name x pos) (envOfC name scope L a cd)) Q E s := wpAny_Name (wpAny_loadName_local hk hl hn hv h) hd
/-- what __init__ leaves of a fresh exception at x -/
structure InitEnd (h h' : Heap) (x C dx t1 : Addr) (v : Value) : Prop where
  keep : ∀ b o, b ≠ x → h.get? b = some o → h'.get? b = some o
  obj : h'.get? x = some { cls := .ref C, dict := some dx, data := .fields #[.ref t1, .none, .none, .none, .bool false, .none] }
  dbig : h.objs.size ≤ dx
  dne : dx ≠ x
  ns : h'.Ns1 dx (fun y => if y = "name" then some v else none)
/-- a made Low -/
structure OwnMade (h h' : Heap) (e C d : Addr) (v : Value) : Prop where
  keep : ∀ b o, h.get? b = some o → h'.get? b = some o
  new : h.objs.size ≤ e
  obj : ∃ oe vs, h'.get? e = some oe ∧ oe.cls = .ref C ∧ oe.dict = some d ∧ oe.data = .fields vs ∧ vs[1]? = some .none
  dbig : h.objs.size ≤ d
  dne : d ≠ e
  ns : h'.Ns1 d (fun y => if y = "name" then some v else none)
section
variable {prog : Program} {w : World} {A : Around} {E : Value → Shared → Prop} {R : Result → Shared → Prop} {s : Shared} {K : Frag} {mg : Str → Option Value} {C fI : Addr}
theorem low_init (T : LowTxt K mg C fI) {x t0 : Addr} {v : Value} (X : K.In s.heap) (hlim : s.heap.NoLimit) (hx : s.heap.get? x = some (excO C t0)) (hnx : K.lookup x = none) (hroom : A.depth < recursionLimit)
    (hq : ∀ h' tk dx, InitEnd s.heap h' x C dx t0 v → R (.ok (.ret .none)) { s with heap := h', toks := tk }) :
    codeAny (model prog w) A (.call (.ref fI) ⟨[.ref x, v], []⟩) R s := by
  obtain ⟨oc, od, doc, pm, an, cdv, ct, osl, p1, p2, q1, q2, q3, q4, ho, hcd⟩ := T.fn
  obtain ⟨nm, q, N, bs, bm, sn, sub, ab, col, dd, k0, k1, k2, k3, k5, hC, hbm⟩ := T.cls
  have hcl : clsIn K C = some { name := nm, bases := bs, mro := .ref C :: bm, ns := N, qualname := q, hasDict := true, slotNames := sn, subclasses := sub, abstract := ab, collection := col, hasDel := false } := by unfold clsIn; rw [hC] <;> rfl
  refine Att.call_fn (binds := [("self", .ref x), ("name", v)]) X hlim ho hcd hroom (BindsTo.of_eq (by first | rfl | with_unfolding_all rfl)) (by first | rfl | decide | with_unfolding_all rfl) (fun s₁ IC => ?_) rfl rfl rfl
  obtain ⟨h₁, tk₁, rfl⟩ := IC.toInCall.same
  have k : ∀ b o, s.heap.get? b = some o → h₁.get? b = some o := IC.toInCall.keep
  have hn := IC.toInCall.ns
  have hxL : s.heap.objs.size ≠ x := Nat.ne_of_gt (Heap.lt_size hx)
  have X₁ : K.In h₁ := X.keeps k
  have hx₁ := k _ _ hx
  -- self.name = name
  show wpAny _ _ (execs _ _) _ _ _
  refine wpAny_execs_cons (plainObj_wpAny_Assign_Attribute ?_)
  refine ldC (v := v) hn (by first | rfl | with_unfolding_all rfl | kernel_rfl) (ldC (v := .ref x) hn (by first | rfl | with_unfolding_all rfl | kernel_rfl) ?_)
  refine set_plain X₁ (ox := excO C t0) (od := none) ⟨hx₁, rfl, rfl, trivial⟩ T.sa ?_
  refine exc_osa X₁ hx₁ hcl (show refsVE (.ref C :: bm) = true from hbm) rfl T.noN (fun h₃ tk₃ dx k₃ dn dne hx₃ hn₃ => ?_)
  show wpAny _ _ (execs _ _) _ _ _
  have z : s.heap.objs.size < h₁.objs.size := hn.lt
  exact wpAny_execs_nil (hq h₃ tk₃ dx ⟨fun b o hb e => k₃ b o hb (k b o e), hx₃, Nat.le_of_lt (Nat.lt_of_lt_of_le z dn), dne, hn₃⟩)
theorem low_made (T : LowTxt K mg C fI) {v : Value} (X : K.In s.heap) (hlim : s.heap.NoLimit) (hroom : A.depth + 1 < recursionLimit)
    (hq : ∀ h' tk e d, OwnMade s.heap h' e C d v → R (.ok (.ret (.ref e))) { s with heap := h', toks := tk }) :
    codeAny (model prog w) A (.call (.ref C) ⟨[v], []⟩) R s := by
  obtain ⟨nm, q, N, bs, bm, sn, sub, ab, col, dd, k0, k1, k2, k3, k5, hC, hbm⟩ := T.cls
  obtain ⟨hp, g, dr, tk, os⟩ := s
  have k : ∀ b o, hp.get? b = some o → ((hp.push (kdv_tup [v])).push (excO C hp.objs.size)).get? b = some o := fun b o e => Heap.get?_push_of_some _ (Heap.get?_push_of_some _ e)
  have hget : ((hp.push (kdv_tup [v])).push (excO C hp.objs.size)).get? (hp.objs.size + 1) = some (excO C hp.objs.size) := by heap_get
  have hnx : K.lookup (hp.objs.size + 1) = none := by
    cases e : K.lookup (hp.objs.size + 1) with
    | none => rfl
    | some o =>
      have z : hp.get? (hp.objs.size + 1) = some o := X _ _ e
      exact absurd (Nat.lt_of_succ_lt (Heap.lt_size z)) (Nat.lt_irrefl _)
  refine call_own F.excBase_ValueError (fun X => refsVE_contains X bm hbm) (X _ _ hC) (looks_findIn X T.iC) (fun self => bind_fn X self T.tC) (one_size v) ?_
  refine low_init (s := ⟨(hp.push (kdv_tup [v])).push (excO C hp.objs.size), g, dr, tk, os⟩) T (X.keeps k) (hlim.keeps k) hget hnx ?_ fun h' tk' dx ⟨k', hx, dn, dne, hns⟩ => ?_
  · show A.depth + 1 < recursionLimit
    exact hroom
  · have old : ∀ b o, hp.get? b = some o → h'.get? b = some o := fun b o e => k' b o (Nat.ne_of_lt (Nat.lt_succ_of_lt (Heap.lt_size e))) (k b o e)
    have z : hp.objs.size + 1 + 1 ≤ dx := by
      first
        | (simpa only [Heap.size_push] using dn)
        | exact dn
        | (have q := dn; rw [Heap.size_push, Heap.size_push] at q; exact q)
    exact ⟨rfl, hq h' tk' (hp.objs.size + 1) dx ⟨old, Nat.le_succ _, ⟨_, _, hx, rfl, rfl, rfl, rfl⟩, Nat.le_trans (Nat.le_trans (Nat.le_succ _) (Nat.le_succ _)) z, dne, hns⟩⟩
end
end LowX
end PySem
namespace L2
open PySem PySem.Spec PyProof.Rows
theorem relO_low {v : V} {v' : Value} (r : RelV v v') (f : Str) : RelO (List.lookup f [(("name" : Str), v)]) (if f = "name" then some v' else none) := by
  by_cases hw : f = "name"
  · subst hw
    rw [if_pos rfl]
    have q : List.lookup ("name" : Str) [(("name" : Str), v)] = some v := by simp [List.lookup]
    rw [q]
    exact r
  · rw [if_neg hw]
    have qw : (f == ("name" : Str)) = false := by simpa using hw
    have q2 : List.lookup f [(("name" : Str), v)] = none := by simp [List.lookup, qw]
    rw [q2]
    trivial
section
variable {X : Cx} {C fI : Addr}
/-- Low(e) -/
def tMkLow (C : Addr) (ta : TA) : St → Hp → XK → Prop := fun σ H Q => ta σ H fun vs H1 => ∃ v, vs = [v] ∧ ∀ d, H1 d = none → Q (.ref C) (some d) (upd H1 d (.xd [(("name" : Str), v)]))
theorem pmk_low {a : Expr} {ta : TA} {p pos : Pos} {k : Nat} (T : PySem.LowX.LowTxt X.K X.mg C fI) (hr : Room k X.A) (ha : PA X [a] ta) (hg : Gl X "InvalidNumber" := by rfl)
    (he : starEach (a :: []) X.env = (false, eval a X.env) :: starEach [] X.env := by rfl) (hpl : (backTo pos (starEach [] X.env)).any (·.1) = false := by rfl) :
    PMk X (.Call (.Name "InvalidNumber" p) [a] [] pos) (tMkLow C ta) := by
  intro pins s σ H Q I h
  refine wpAny_Call_Name_kw (ld_glob I hg T.gC ?_)
  refine PySem.W.callWith_K (h₀ := X.base) I.ok.mod.kin T.kC (thn (ha.run pos pins s σ H _ I h) fun us s1 hh => ?_) he hpl
  obtain ⟨vs, H1, I1, r1, v, ev, q1⟩ := hh
  subst ev
  refine ⟨I1.kIn, ?_⟩
  cases r1 with
  | cons rv rn =>
    rename_i v' us'
    cases rn
    show wpAny _ _ (call (.ref C) [v']) _ _ _
    have hlim := I1.nolimit
    obtain ⟨hp, g, dr, tk, os⟩ := s1
    refine wpAny_call (PySem.LowX.low_made T I1.kIn hlim (by have := hr.dp; omega) fun h' tk' e d M => ?_)
    show MkP X pins σ Q (.ref e) ⟨h', g, dr, tk', os⟩
    obtain ⟨oe, fv, hoe, hc, hd, hdat, h1⟩ := M.obj
    have hns := M.ns
    obtain ⟨G', g1, g2⟩ := restrict h' fun b => decide (b ≠ e)
    have gk : ∀ b, b ≠ e → G'.get? b = h'.get? b := fun b hb => g1 b (decide_eq_true hb)
    have ge : G'.get? e = none := g2 e (by simp)
    have old : ∀ b o, hp.get? b = some o → G'.get? b = some o := fun b o q => (gk b (Nat.ne_of_lt (Nat.lt_of_lt_of_le (Heap.lt_size q) M.new))).trans (M.keep b o q)
    have ob : ObjOk X.prog X.w (upd H1 d (.xd [(("name" : Str), v)])) G' d (.xd [(("name" : Str), v)]) :=
      ⟨_, hns.at (fun o q => (gk d M.dne).trans q), fun f => relO_low rv f⟩
    have J : Inv X pins σ (upd H1 d (.xd [(("name" : Str), v)])) ⟨G', g, dr, tk', os⟩ := I1.laid (t' := tk') old M.dbig ob
    refine ⟨e, oe, fv, ⟨G', g, dr, tk', os⟩, _, .ref C, some d, rfl, J, fun b o q => ?_, ge, hoe, ⟨hc, hd⟩, hdat, h1, ?_, rfl, I1.bare, raises_own T.exC T.tyC, q1 d (I1.hok.fresh M.dbig)⟩
    · by_cases hb : b = e
      · have q' : G'.get? b = some o := q
        rw [hb, ge] at q'; cases q'
      · exact (gk b hb).symm.trans q
    · rw [upd_ne (Ne.symm M.dne)]
      exact I1.hok.fresh M.new
/-- raise Low(e) -/
def tRaiseLow (C : Addr) (W : WX) (ta : TA) : TS := fun _ σ H => tMkLow C ta σ H fun cls d H' => W cls d σ H'
theorem ps_raiseLow {a : Expr} {ta : TA} {W : WX} {p pos pos2 : Pos} {k : Nat} (hc : X.calm = true) (T : PySem.LowX.LowTxt X.K X.mg C fI) (hr : Room k X.A) (tk : Takes X W) (ha : PA X [a] ta) (hg : Gl X "InvalidNumber" := by rfl)
    (he : starEach (a :: []) X.env = (false, eval a X.env) :: starEach [] X.env := by rfl) (hpl : (backTo pos (starEach [] X.env)).any (·.1) = false := by rfl) :
    PS X (.Raise (some (.Call (.Name "InvalidNumber" p) [a] [] pos)) none pos2) (tRaiseLow C W ta) := ps_raise hc tk (pmk_low T hr ha hg he hpl)
end
end L2

set_option Elab.async false
set_option linter.all false
set_option maxRecDepth 100000
set_option maxHeartbeats 4000000
/-! W1: the text by places; the checks. -/
namespace BR
open PySem L2 PySem.Spec PyProof.Rows PD

def top (i : Nat) : Stmt := PySem.Challenge.pw_breakrows_k60_whole_prices_and_counts.main.body.getD i (.Pass ⟨0, 0, 0, 0⟩)
abbrev sIsInt : Stmt := top 11
abbrev sAtLeast : Stmt := top 12
abbrev sBetween : Stmt := top 13
abbrev sIsDay : Stmt := top 14
abbrev sReqCal : Stmt := top 15

/-- what the module's names hold -/
structure Txt (mg : Str → Option Value) : Prop where
  isinstance : mg "isinstance" = none
  int : mg "int" = none
  bool : mg "bool" = none
  tuple : mg "tuple" = none
  list : mg "list" = none
  len : mg "len" = none
  all : mg "all" = none
  enumerate : mg "enumerate" = none
  range : mg "range" = none
  min : mg "min" = none
  max : mg "max" = none
  sum : mg "sum" = none
  dict : mg "dict" = none
  sorted : mg "sorted" = none
  reversed : mg "reversed" = none
  zip : mg "zip" = none
  maxDays : ∃ t, mg "MAX_DAYS" = some (.int 100 t)
  maxOwned : ∃ t, mg "MAX_OWNED" = some (.int 12 t)
  maxStates : ∃ t, mg "MAX_STATES" = some (.int 300 t)
  maxEntries : ∃ t, mg "MAX_ENTRIES" = some (.int 5000 t)
  maxLevels : ∃ t, mg "MAX_LEVELS" = some (.int 200 t)
/-- an optional int as a datum -/
def optD : Option Int → D
  | none => .non
  | some i => .int i
abbrev dayD (p : Int × Option Int) : D := .tup [.int p.1, optD p.2]
abbrev calD (c : List (Int × Option Int)) : D := .lst (c.map dayD)
def DayOk (day : Int) (p : Int × Option Int) : Prop := 0 ≤ p.1 ∧ p.1 ≤ 12 ∧ ∀ b, p.2 = some b → day + 1 ≤ b

section
variable {P : Program} {w : World} {K : PySem.W.Frag} {mg : Str → Option Value} {base : Heap} {f : Addr} {fd : FuncData}
theorem scIsInt : FnScope ["value"] ["value"] (defScope sIsInt) := ⟨rfl, rfl, rfl, by decide +kernel, rfl, by decide +kernel, by decide +kernel⟩
abbrev spIsInt (M : MW) : Sp := spO M (fun i : Int => [D.int i]) (fun _ => True) (fun _ d => d = .bl true)
theorem ok_isInt (T : Txt mg) (F : Fun K "is_integer" "is_integer" sIsInt f fd) : FnOk P w K mg base CX0 1 f fd ["value"] (spIsInt ⟨P, w⟩) := by
  refine fn_D F scIsInt (fun _ => rfl) (by decide) fun cdv A outer s H E W H0 i hr hp => ?_
  exact hs_retD (ed_and (k := true) (ed_isi (t := "int") (k := true) T.isinstance (dv 0) T.int PyProof.Rows.boot_int rfl (by decide +kernel)) fun _ =>
      ed_one (ed_not (k := false) (ed_isi (T := "bool") (t := "int") (k := false) T.isinstance (dv 0) T.bool (by decide +kernel) rfl (by decide +kernel)))) (by rfl)
theorem scAtLeast : FnScope ["value", "low"] ["value", "low"] (defScope sAtLeast) := ⟨rfl, rfl, rfl, by decide +kernel, rfl, by decide +kernel, by decide +kernel⟩
abbrev spAtLeast (M : MW) : Sp := spO M (fun i : Int × Int => [D.int i.1, .int i.2]) (fun _ => True) (fun i d => d = .bl (decide (i.2 ≤ i.1)))
theorem ok_atLeast (T : Txt mg) (c1 : Cal P w K mg base 1 "is_integer" ["value"] (spIsInt ⟨P, w⟩)) (F : Fun K "is_at_least" "is_at_least" sAtLeast f fd) : FnOk P w K mg base CX0 2 f fd ["value", "low"] (spAtLeast ⟨P, w⟩) := by
  refine fn_D F scAtLeast (fun _ => rfl) (by decide) fun cdv A outer s H E W H0 i hr hp => ?_
  exact hs_retD (ed_and (k := true) (ed_call c1 i.1 hr (ea_cons (dv 0) ea_nil) trivial fun _ h => h) fun _ => ed_one (ed_ge (dv 0) (dv 1))) (by simp)
theorem scBetween : FnScope ["value", "low", "high"] ["value", "low", "high"] (defScope sBetween) := ⟨rfl, rfl, rfl, by decide +kernel, rfl, by decide +kernel, by decide +kernel⟩
abbrev spBetween (M : MW) : Sp := spO M (fun i : Int × Int × Int => [D.int i.1, .int i.2.1, .int i.2.2]) (fun _ => True) (fun i d => d = .bl (decide (i.2.1 ≤ i.1) && decide (i.1 ≤ i.2.2)))
theorem ok_between (T : Txt mg) (c1 : Cal P w K mg base 1 "is_integer" ["value"] (spIsInt ⟨P, w⟩)) (F : Fun K "is_between" "is_between" sBetween f fd) : FnOk P w K mg base CX0 2 f fd ["value", "low", "high"] (spBetween ⟨P, w⟩) := by
  refine fn_D F scBetween (fun _ => rfl) (by decide) fun cdv A outer s H E W H0 i hr hp => ?_
  exact hs_retD (ed_and (k := true) (ed_call c1 i.1 hr (ea_cons (dv 0) ea_nil) trivial fun _ h => h) fun _ => ed_one (ed_leLe (dv 1) (dv 0) (dv 2))) (by simp)
theorem scIsDay : FnScope ["value", "day"] ["value", "day"] (defScope sIsDay) := ⟨rfl, rfl, rfl, by decide +kernel, rfl, by decide +kernel, by decide +kernel⟩
abbrev spIsDay (M : MW) : Sp := spO M (fun i : (Int × Option Int) × Int => [dayD i.1, .int i.2]) (fun i => DayOk i.2 i.1) (fun _ d => d = .bl true)
theorem ok_isDay (T : Txt mg) (c1 : Cal P w K mg base 2 "is_at_least" ["value", "low"] (spAtLeast ⟨P, w⟩)) (c2 : Cal P w K mg base 2 "is_between" ["value", "low", "high"] (spBetween ⟨P, w⟩)) (F : Fun K "is_day" "is_day" sIsDay f fd) :
    FnOk P w K mg base CX0 3 f fd ["value", "day"] (spIsDay ⟨P, w⟩) := by
  refine fn_D F scIsDay (fun _ => rfl) (by decide) fun cdv A outer s H E W H0 i hr hp => ?_
  obtain ⟨⟨o, b⟩, day⟩ := i
  obtain ⟨h1, h2, h3⟩ := hp
  obtain ⟨t, hmo⟩ := T.maxOwned
  refine hs_ifF ?_ ?_
  · refine tt_is (PW.pt (tw_or (td_not (td_val (ed_isi (t := "tuple") (k := true) T.isinstance (dv 0) T.tuple PyProof.Rows.boot_tuple rfl (by decide +kernel)))) fun _ =>
      tw_or (td_neI (ed_lenT T.len (ea_cons (dv 0) ea_nil)) ed_int) fun _ =>
      tw_or1 (td_not (k := true) (td_val (ed_is (da := .bl true) (ed_call c2 (o, 0, 12) hr (ea_cons (ed_ixT (dv 0) ed_int) (ea_cons ed_int (ea_cons (ed_globI hmo) ea_nil))) trivial fun _ h => h) (by simp [show (0:Int) ≤ o from h1, show o ≤ 12 from h2])))))) rfl
  · cases b with
    | none =>
      exact hs_retD (ed_or (l := true) (ed_isN (ed_ixT (dv 0) ed_int)) (by intro h; cases h)) (by rfl)
    | some b =>
      exact hs_retD (ed_or (ed_isN (ed_ixT (dv 0) ed_int)) fun _ => ed_one (ed_call c1 (b, day + 1) hr (ea_cons (ed_ixT (dv 0) ed_int) (ea_cons (ed_add (dv 1) ed_int) ea_nil)) trivial fun _ h => h)) (by simp [h3 b rfl])
end
end BR

/-! M1: what the program computes, in plain Lean. -/
namespace BR
abbrev Day := Int × Option Int
abbrev Cal := List Day
abbrev State := List (Int × Int)
/-- the item before place d (days are counted from 1) -/
def at1 (o : List Int) (d : Int) : Int := o.getD (d - 1).toNat 0
def owned (c : Cal) : List Int := c.map (·.1)
def nDays (c : Cal) : Int := (c.length : Int)
def back1 (n : Int) (b : Option Int) : Int := match b with
  | none => n + 1
  | some i => if n + 1 < i then n + 1 else i
def backs (c : Cal) : List Int := c.map fun p => back1 (nDays c) p.2
def upTo (a : Int) (n : Nat) : List Int := (List.range n).map fun i => a + (i : Nat)
def lowStep (o : List Int) (f : List Int) (later : Int) : List Int := if at1 o later < at1 o (f.getLastD 0) then f ++ [later] else f
def lowDays (o : List Int) (n day : Int) : List Int := (upTo (day + 1) (n - day).toNat).foldl (lowStep o) [day]
def lows (c : Cal) : List (List Int) := (upTo 1 c.length).map (lowDays (owned c) (nDays c))
def gone (st : State) (later : Int) : Int := ((st.filter fun p => decide (later < p.1)).map (·.2)).sum
/-- what is spare on the low days before the pieces come back -/
def spare (c : Cal) (st : State) (day : Int) : List Int := ((lowDays (owned c) (nDays c) day).filter fun l => decide (l < at1 (backs c) day)).map fun l => at1 (owned c) l - gone st l
def minL : List Int → Int
  | [] => 0
  | [a] => a
  | a :: b :: r => let m := minL (b :: r); if m < a then m else a
def room (c : Cal) (st : State) (day : Int) : Int := minL (spare c st day)
theorem minL_mem : ∀ {l : List Int}, l ≠ [] → minL l ∈ l
  | [], h => absurd rfl h
  | [a], _ => by simp [minL]
  | a :: b :: r, _ => by
    have ih := minL_mem (l := b :: r) (by simp)
    show (if minL (b :: r) < a then minL (b :: r) else a) ∈ a :: b :: r
    by_cases h : minL (b :: r) < a
    · rw [if_pos h]; exact List.mem_cons_of_mem _ ih
    · rw [if_neg h]; exact List.mem_cons_self
theorem minL_le : ∀ {l : List Int} {y : Int}, y ∈ l → minL l ≤ y
  | [], y, h => absurd h (by simp)
  | [a], y, h => by
    have : y = a := by simpa using h
    rw [this]; exact Int.le_refl _
  | a :: b :: r, y, h => by
    show (if minL (b :: r) < a then minL (b :: r) else a) ≤ y
    rcases List.mem_cons.mp h with e | e
    · subst e
      split <;> omega
    · have := minL_le (l := b :: r) e
      split <;> omega
end BR

set_option Elab.async false
set_option linter.all false
set_option maxRecDepth 100000
set_option maxHeartbeats 4000000
/-! W2: the table's methods. -/
namespace BR
open PySem L2 PySem.Spec PyProof.Rows PD
def clsBody : Stmt → List Stmt
  | .ClassDef _ _ _ body _ _ _ _ _ _ _ => body
  | _ => []
def tabM (j : Nat) : Stmt := (clsBody (top 20)).getD j (.Pass ⟨0, 0, 0, 0⟩)
abbrev sLow : Stmt := tabM 1
abbrev intsD (ns : List Int) : D := .lst (ns.map D.int)
/-- what of the class the methods ask -/
structure TabC (K : PySem.W.Frag) (C : Addr) : Prop where
  cls : Cls K C
  owned : NoAttr K C "owned"
  days : NoAttr K C "days"
  backs : NoAttr K C "backs"
  lows : NoAttr K C "lows"
  steps : NoAttr K C "steps"
  counts : NoAttr K C "counts"
theorem atI_one {ns : List Int} {d i : Int} (h1 : 1 ≤ d) (h2 : d ≤ ns.length) (e : i = d - 1) : atI (ns.map D.int) i = some (.int (at1 ns d)) := by
  subst e
  unfold atI ixN
  rw [List.length_map, if_pos (by omega), if_pos (by omega)]
  show (ns.map D.int)[(d - 1).toNat]? = _
  have hl : (d - 1).toNat < ns.length := by omega
  unfold at1
  rw [List.getElem?_map, List.getElem?_eq_getElem hl, List.getD_eq_getElem?_getD, List.getElem?_eq_getElem hl]
  rfl
theorem atI_last {ns : List Int} (h : ns ≠ []) : atI (ns.map D.int) (-1) = some (.int (ns.getLastD 0)) := by
  have hl : 0 < ns.length := List.length_pos_iff.mpr h
  unfold atI ixN
  rw [List.length_map, if_neg (by omega), if_pos (by omega)]
  show (ns.map D.int)[(-1 + (ns.length : Int)).toNat]? = _
  have e : (-1 + (ns.length : Int)).toNat = ns.length - 1 := by omega
  rw [e, List.getElem?_map, List.getElem?_eq_getElem (by omega), ← List.getLast_eq_getElem h]
  rw [List.getLastD_eq_getLast?, List.getLast?_eq_getLast h]
  rfl
theorem lowStep_ne {o f : List Int} {l : Int} (h : f ≠ []) : lowStep o f l ≠ [] := by
  unfold lowStep; split <;> simp [h]
theorem fold_low_mem {o : List Int} : ∀ {ls f : List Int} {x : Int}, x ∈ ls.foldl (lowStep o) f → x ∈ f ∨ x ∈ ls
  | [], f, x, h => .inl h
  | l :: ls, f, x, h => by
    rcases fold_low_mem (ls := ls) (f := lowStep o f l) h with h | h
    · unfold lowStep at h
      split at h
      · rcases List.mem_append.mp h with h | h
        · exact .inl h
        · exact .inr (by rw [List.mem_singleton.mp h]; exact List.mem_cons_self)
      · exact .inl h
    · exact .inr (List.mem_cons_of_mem _ h)
theorem fold_low_ne {o : List Int} : ∀ {ls f : List Int}, f ≠ [] → ls.foldl (lowStep o) f ≠ []
  | [], f, h => h
  | l :: ls, f, h => fold_low_ne (ls := ls) (lowStep_ne h)
theorem fold_low_len {o : List Int} : ∀ {ls f : List Int}, (ls.foldl (lowStep o) f).length ≤ f.length + ls.length
  | [], f => Nat.le_refl _
  | l :: ls, f => by
    have h := fold_low_len (o := o) (ls := ls) (f := lowStep o f l)
    have g : (lowStep o f l).length ≤ f.length + 1 := by
      unfold lowStep; split
      · rw [List.length_append]; exact Nat.le_refl _
      · exact Nat.le_succ _
    show ((ls.foldl (lowStep o) (lowStep o f l)).length) ≤ _
    rw [List.length_cons]; omega
theorem upTo_mem {a : Int} {n : Nat} {x : Int} (h : x ∈ upTo a n) : a ≤ x ∧ x < a + n := by
  unfold upTo at h
  obtain ⟨i, hi, e⟩ := List.mem_map.mp h
  have := List.mem_range.mp hi
  omega
theorem upTo_take {a : Int} {n i : Nat} (h : i ≤ n) : (upTo a n).take i = upTo a i := by
  unfold upTo
  rw [← List.map_take, List.take_range, Nat.min_eq_left h]
theorem upTo_succ {a : Int} {n : Nat} : upTo a (n + 1) = upTo a n ++ [a + (n : Nat)] := by
  unfold upTo
  rw [List.range_succ, List.map_append]; rfl
theorem range_at {a : Int} {n j : Nat} {d : D} (h : ((List.range n).map fun i => D.int (a + (i : Nat)))[j]? = some d) : j < n ∧ d = .int (a + (j : Nat)) := by
  rw [List.getElem?_map] at h
  have hj : j < n := by
    rcases Nat.lt_or_ge j n with q | q
    · exact q
    · rw [List.getElem?_eq_none (by simpa using q)] at h; cases h
  rw [List.getElem?_range hj] at h
  have h : D.int (a + (j : Nat)) = d := by simpa using h
  exact ⟨hj, h.symm⟩
section
variable {P : Program} {w : World} {K : PySem.W.Frag} {mg : Str → Option Value} {base : Heap} {f C : Addr} {fd : FuncData}
theorem scLow : FnScope ["self", "day", "found", "later"] ["self", "day"] (defScope sLow) := ⟨rfl, rfl, rfl, by decide +kernel, rfl, by decide +kernel, by decide +kernel⟩
abbrev spLow (M : MW) (C : Addr) : Sp := spO M (fun i : List Int × Int × Int => [D.ins C [("owned", intsD i.1), ("days", .int i.2.1)], .int i.2.2]) (fun i => (i.1.length : Int) = i.2.1 ∧ i.1.length ≤ 101 ∧ 1 ≤ i.2.2 ∧ i.2.2 ≤ i.2.1) (fun i d => d = intsD (lowDays i.1 i.2.1 i.2.2))
theorem ok_low (T : Txt mg) (TC : TabC K C) (F : Fun K "low_days" "Table.low_days" sLow f fd) : FnOk P w K mg base CX0 1 f fd ["self", "day"] (spLow ⟨P, w⟩ C) := by
  refine fn_D F scLow (fun _ => rfl) (by decide) fun cdv A outer s H E W H0 i hr hp => ?_
  obtain ⟨o, n, day⟩ := i
  obtain ⟨ho, hle, h1, h2⟩ := hp
  simp only at ho hle h1 h2
  refine hs_setNew 2 (ef_lst (ea_cons (dv 1) ea_nil)) (fun ds e => ?_) (Nat.le_of_ble_eq_true rfl) scLow.nd
  subst e
  have hcnt : (n + 1 - (day + 1)).toNat = (n - day).toNat := by congr 1; omega
  refine hs_for (K' := fun d => d = intsD (lowDays o n day)) (fun j r => ∃ x, r = [.val (.ins C [("owned", intsD o), ("days", .int n)]), .val (.int day), .own ((((upTo (day + 1) (n - day).toNat).take j).foldl (lowStep o) [day]).map D.int), x])
    rfl PassesOwn.never (ei_range2 (l := day + 1) (n := n + 1) T.range (ea_cons (ed_add (dv 1) ed_int) (ea_cons (ed_add (ed_fld (dv 0) TC.cls TC.days rfl) ed_int) ea_nil)) (by omega)) (pg_name (i := 3) scLow.nd rfl (.inl rfl)) ⟨_, rfl⟩ (fun d => [(3, d)]) (fun d _ => gd_name) ?_ (fun _ _ h => h) ?_
  · rintro H1 j d r' hd ⟨x, rfl⟩
    obtain ⟨hj, rfl⟩ := range_at hd
    have hj : j < (n - day).toNat := by omega
    rw [upTo_take (by omega)]
    have hnx : ((upTo (day + 1) (n - day).toNat).take (j + 1)) = upTo (day + 1) j ++ [day + 1 + (j : Nat)] := by rw [upTo_take (by omega), upTo_succ]
    generalize hF : (upTo (day + 1) j).foldl (lowStep o) [day] = Fd
    have hne : Fd ≠ [] := by rw [← hF]; exact fold_low_ne (by simp)
    have hmem : ∀ y ∈ Fd, 1 ≤ y ∧ y ≤ n := fun y hy => by
      rw [← hF] at hy
      rcases fold_low_mem hy with q | q
      · rw [List.mem_singleton.mp q]; exact ⟨h1, h2⟩
      · have := upTo_mem q; omega
    have hlen : Fd.length < 1000 := by
      rw [← hF]
      have := fold_low_len (o := o) (ls := upTo (day + 1) j) (f := [day])
      have e : (upTo (day + 1) j).length = j := by unfold upTo; simp
      simp only [List.length_cons, List.length_nil] at this
      omega
    have hlast : 1 ≤ Fd.getLastD 0 ∧ Fd.getLastD 0 ≤ n := by
      apply hmem
      rw [List.getLastD_eq_getLast?, List.getLast?_eq_getLast hne]
      exact List.getLast_mem hne
    have hstep : ((upTo (day + 1) (n - day).toNat).take (j + 1)).foldl (lowStep o) [day] = lowStep o Fd (day + 1 + (j : Nat)) := by rw [hnx, List.foldl_append, hF]; rfl
    refine hs_ifV (M := fun σ H => ∃ r', (∃ x, r' = [.val (.ins C [("owned", intsD o), ("days", .int n)]), .val (.int day), .own ((((upTo (day + 1) (n - day).toNat).take (j + 1)).foldl (lowStep o) [day]).map D.int), x]) ∧ At ⟨P, w⟩ W H1 r' σ H) 2 rfl rfl
      (td_lt (i := at1 o (day + 1 + (j : Nat))) (j := at1 o (Fd.getLastD 0)) (ed_ixL (ed_fld (dv 0) TC.cls TC.owned rfl) (ed_sub (dv 3) ed_int) (atI_one (d := day + 1 + (j : Nat)) (by omega) (by omega) rfl))
        (ed_ixL (ed_fld (dv 0) TC.cls TC.owned rfl) (ed_sub (ed_ixL (dv 2) (ed_neg ed_int) (atI_last hne)) ed_int) (atI_one hlast.1 (by omega) rfl))) (fun hb => ?_) (fun hb => ?_) (hs_nil fun σ H h => h)
    · have hb : at1 o (day + 1 + (j : Nat)) < at1 o (Fd.getLastD 0) := by simpa using hb
      refine hs_app 2 (pe_bm PySem.F.plainAttrs_list PySem.F.slot_list_append PySem.type_list_append (fun pins s σ H x xs v us Q I rx rs q => mt_append pins s σ H x xs v us Q I rx rs q) (ov 2) (pa_cons (dv 3) pa_nil)) rfl (by rw [List.length_map]; rw [sizeLine_eq]; omega) fun d e => hs_nil fun σ H h => ⟨_, ⟨.val (.int (day + 1 + (j : Nat))), ?_⟩, h⟩
      subst e
      rw [hstep]
      unfold lowStep
      rw [if_pos hb, List.map_append]
      rfl
    · have hb : ¬ at1 o (day + 1 + (j : Nat)) < at1 o (Fd.getLastD 0) := by simpa using hb
      refine hs_nil fun σ H h => ⟨_, ⟨.val (.int (day + 1 + (j : Nat))), ?_⟩, h⟩
      rw [hstep]
      unfold lowStep
      rw [if_neg hb]
      rfl
  · rintro r' ⟨x, rfl⟩
    rw [List.length_map, List.length_range, hcnt, show (upTo (day + 1) (n - day).toNat).take (n - day).toNat = upTo (day + 1) (n - day).toNat from upTo_take (Nat.le_refl _)]
    exact hs_frz 2 rfl (hs_retD (dv 2) rfl)

abbrev stD (st : State) : D := .ktp (st.map pairD)
def f0 (c : Cal) : List (Str × D) := [("owned", intsD (owned c)), ("days", .int (nDays c)), ("backs", intsD (backs c)), ("lows", .lst ((lows c).map intsD))]
structure CalOk (c : Cal) : Prop where
  len : c.length ≤ 101
  day : ∀ i p, c[i]? = some p → DayOk ((i : Nat) + 1) p
abbrev sRoom : Stmt := tabM 2
theorem lows_at {c : Cal} {day : Int} (h1 : 1 ≤ day) (h2 : day ≤ nDays c) : atI ((lows c).map intsD) (day - 1) = some (intsD (lowDays (owned c) (nDays c) day)) := by
  unfold nDays at h2
  have hl : ((lows c).map intsD).length = c.length := by unfold lows upTo; simp
  unfold atI ixN
  rw [hl, if_pos (by omega), if_pos (by omega)]
  show ((lows c).map intsD)[(day - 1).toNat]? = _
  unfold lows upTo
  rw [List.getElem?_map, List.getElem?_map, List.getElem?_map, List.getElem?_range (by omega)]
  show some (intsD (lowDays (owned c) (nDays c) (1 + ((day - 1).toNat : Int)))) = _
  rw [show 1 + ((day - 1).toNat : Int) = day by omega]
theorem back_gt {c : Cal} (ok : CalOk c) {day : Int} (h1 : 1 ≤ day) (h2 : day ≤ nDays c) : day < at1 (backs c) day := by
  unfold nDays at h2
  have hl : (day - 1).toNat < c.length := by omega
  unfold at1 backs
  rw [List.getD_eq_getElem?_getD, List.getElem?_map, List.getElem?_eq_getElem hl]
  show day < back1 (nDays c) (c[(day - 1).toNat]).2
  have d := ok.day (day - 1).toNat _ (List.getElem?_eq_getElem hl)
  unfold back1 nDays
  cases q : (c[(day - 1).toNat]).2 with
  | none => show day < (c.length : Int) + 1; omega
  | some b =>
    have := d.2.2 b q
    show day < if (c.length : Int) + 1 < b then (c.length : Int) + 1 else b
    split <;> omega
theorem lowDays_head (o : List Int) (n day : Int) : ∃ r, lowDays o n day = day :: r := by
  unfold lowDays
  have : ∀ (ls : List Int) (f : List Int), ∃ r, ls.foldl (lowStep o) f = f ++ r := fun ls => by
    induction ls with
    | nil => intro f; exact ⟨[], by simp⟩
    | cons l ls ih =>
      intro f
      obtain ⟨r, e⟩ := ih (lowStep o f l)
      show ∃ r, ls.foldl (lowStep o) (lowStep o f l) = f ++ r
      rw [e]
      unfold lowStep
      split
      · exact ⟨[l] ++ r, by simp⟩
      · exact ⟨r, rfl⟩
  obtain ⟨r, e⟩ := this (upTo (day + 1) (n - day).toNat) [day]
  exact ⟨r, by rw [e]; rfl⟩
theorem lowDays_mem {o : List Int} {n day x : Int} (h2 : day ≤ n) (h : x ∈ lowDays o n day) : day ≤ x ∧ x ≤ n := by
  unfold lowDays at h
  rcases fold_low_mem h with q | q
  · rw [List.mem_singleton.mp q]; exact ⟨Int.le_refl _, h2⟩
  · have := upTo_mem q; omega
theorem spare_ne {c : Cal} (ok : CalOk c) (st : State) {day : Int} (h1 : 1 ≤ day) (h2 : day ≤ nDays c) : spare c st day ≠ [] := by
  obtain ⟨r, e⟩ := lowDays_head (owned c) (nDays c) day
  unfold spare
  rw [e, List.filter_cons, if_pos (by rw [decide_eq_true_eq]; exact back_gt ok h1 h2)]
  simp
theorem scRoom : FnScope ["self", "state", "day", "spare", "later", "gone", "number", "back"] ["self", "state", "day"] (defScope sRoom) := ⟨rfl, rfl, rfl, by decide +kernel, rfl, by decide +kernel, by decide +kernel⟩
abbrev spRoom (M : MW) (C : Addr) : Sp := spO M (fun i : Cal × State × Int => [D.ins C (f0 i.1), stD i.2.1, .int i.2.2]) (fun i => CalOk i.1 ∧ i.2.1.length < 1000 ∧ 1 ≤ i.2.2 ∧ i.2.2 ≤ nDays i.1) (fun i d => d = .int (room i.1 i.2.1 i.2.2))
theorem ok_room (T : Txt mg) (TC : TabC K C) (F : Fun K "room" "Table.room" sRoom f fd) : FnOk P w K mg base CX0 1 f fd ["self", "state", "day"] (spRoom ⟨P, w⟩ C) := by
  refine fn_D F scRoom (fun _ => rfl) (by decide) fun cdv A outer s H E W H0 i hr hp => ?_
  obtain ⟨c, st, day⟩ := i
  obtain ⟨ok, hst, h1, h2⟩ := hp
  simp only at ok hst h1 h2
  have hl := ok.len
  have hn : nDays c = (c.length : Int) := rfl
  refine hs_setNew 3 (ef_lst ea_nil) (fun ds e => ?_) (Nat.le_of_ble_eq_true rfl) scRoom.nd
  subst e
  obtain ⟨lr, elr⟩ := lowDays_head (owned c) (nDays c) day
  have hlen : (lowDays (owned c) (nDays c) day).length < 1000 := by
    have := fold_low_len (o := owned c) (ls := upTo (day + 1) (nDays c - day).toNat) (f := [day])
    have e : (upTo (day + 1) (nDays c - day).toNat).length = (nDays c - day).toNat := by unfold upTo; simp
    simp only [List.length_cons, List.length_nil] at this
    show (List.length (List.foldl _ _ _)) < _
    omega
  refine hs_for (K' := fun d => d = .int (room c st day)) (fun j r => ∃ x y, r = [.val (.ins C (f0 c)), .val (stD st), .val (.int day), .own (((((lowDays (owned c) (nDays c) day).take j).filter fun l => decide (l < at1 (backs c) day)).map fun l => at1 (owned c) l - gone st l).map D.int), x, y, .none, .none])
    rfl PassesOwn.never (ei_list (ed_ixL (ed_fld (dv 0) TC.cls TC.lows rfl) (ed_sub (dv 2) ed_int) (lows_at h1 h2))) (pg_name (i := 4) scRoom.nd rfl (.inr rfl)) ⟨_, _, rfl⟩ (fun d => [(4, d)]) (fun d _ => gd_name) ?_ (fun _ _ h => h) ?_
  · rintro H1 j d r' hd ⟨x, y, rfl⟩
    obtain ⟨l, hl1, rfl⟩ : ∃ l, (lowDays (owned c) (nDays c) day)[j]? = some l ∧ d = .int l := by
      rw [List.getElem?_map] at hd
      cases q : (lowDays (owned c) (nDays c) day)[j]? with
      | none => rw [q] at hd; cases hd
      | some l => rw [q] at hd; exact ⟨l, rfl, by simpa using hd.symm⟩
    have hlm := lowDays_mem h2 (List.mem_of_getElem? hl1)
    rw [take_snoc hl1, List.filter_append, List.map_append, List.map_append]
    generalize hF : ((((lowDays (owned c) (nDays c) day).take j).filter fun l => decide (l < at1 (backs c) day)).map fun l => at1 (owned c) l - gone st l) = Fd
    have hFl : Fd.length < 1000 := by
      rw [← hF, List.length_map]
      have := List.length_filter_le (fun l => decide (l < at1 (backs c) day)) ((lowDays (owned c) (nDays c) day).take j)
      rw [List.length_take] at this
      omega
    have howl : day ≤ (backs c).length ∧ l ≤ (owned c).length := by unfold backs owned; simp; omega
    refine hs_if (M := fun σ H => ∃ r', (∃ x y, r' = [.val (.ins C (f0 c)), .val (stD st), .val (.int day), .own (Fd.map D.int ++ ((([l].filter fun l => decide (l < at1 (backs c) day)).map fun l => at1 (owned c) l - gone st l).map D.int)), x, y, .none, .none]) ∧ At ⟨P, w⟩ W H1 r' σ H)
      (td_lt (dv 4) (ed_ixL (ed_fld (dv 0) TC.cls TC.backs rfl) (ed_sub (dv 2) ed_int) (atI_one (d := day) h1 howl.1 rfl))) (fun hb => ?_) (fun hb => ?_) (hs_nil fun σ H h => h)
    · have hb : l < at1 (backs c) day := by simpa using hb
      refine hs_setD 5 (d := .int (gone st l)) (ed_callBN (Ka := fun ds => ds = [.lst (((st.filter fun p => decide (l < p.1)).map (·.2)).map D.int)]) (cr_sum rfl) (fun ds e => by rw [e]; exact c1_sum) T.sum boot_sum (ea_consN (K := fun d => d = .lst (((st.filter fun p => decide (l < p.1)).map (·.2)).map D.int)) (Kr := fun ds => ds = [])
        (ed_new (ef_lc st pairD (fun p => [(7, .int p.1), (6, .int p.2)]) (fun p => decide (l < p.1)) (fun p => .int p.2) rfl scRoom.nd (ei_ktp (dv 1)) (blkOk_by (own := [("back", 7), ("number", 6)]) (by rfl))
          (fun s H C cl fp => pg_tup (n := 2) rfl (pgs_cons (pg_name (i := 7) scRoom.nd rfl (.inl rfl)) (pgs_cons (pg_name (i := 6) scRoom.nd rfl (.inl rfl)) pgs_nil))) (fun p _ => gd_ktp (gd_cons gd_name (gd_cons gd_name gd_nil))) (fun p _ q hq => by simp at hq; rcases hq with e | e <;> subst e <;> simp)
          (fun p _ s H C cl fp => td_test1 (td_gt (dv 7) (dv 4))) (fun p _ _ s H C cl fp => dv 6) (by rw [sizeLine_eq]; omega)) fun ds e => by rw [e, List.map_map]; rfl) ea_nil (fun d ds e1 e2 => by rw [e1, e2]))) ?_ scRoom.nd
      refine hs_app 3 (pe_bm PySem.F.plainAttrs_list PySem.F.slot_list_append PySem.type_list_append (fun pins s σ H x xs v us Q I rx rs q => mt_append pins s σ H x xs v us Q I rx rs q) (ov 3) (pa_cons (ed_sub (ed_ixL (ed_fld (dv 0) TC.cls TC.owned rfl) (ed_sub (dv 4) ed_int) (atI_one (d := l) (by omega) howl.2 rfl)) (dv 5)) pa_nil)) rfl (by rw [List.length_map]; rw [sizeLine_eq]; omega) fun d e => hs_nil fun σ H h => ⟨_, ⟨.val (.int l), .val (.int (gone st l)), ?_⟩, h⟩
      subst e
      rw [List.filter_cons, if_pos (decide_eq_true hb)]
      rfl
    · have hb : ¬ l < at1 (backs c) day := by simpa using hb
      refine hs_nil fun σ H h => ⟨_, ⟨.val (.int l), y, ?_⟩, h⟩
      rw [List.filter_cons, if_neg (by rw [decide_eq_true_eq]; exact hb)]
      simp
      rfl
  · rintro r' ⟨x, y, rfl⟩
    rw [List.length_map, List.take_length]
    refine hs_frz 3 rfl (hs_retD (ed_callB (cr_min rfl) (c1_minL (minL_mem (spare_ne ok st h1 h2)) fun y hy => minL_le hy) T.min boot_min (ea_cons (dv 3) ea_nil)) rfl)
end
end BR

set_option Elab.async false
set_option linter.all false
set_option maxRecDepth 100000
set_option maxHeartbeats 2000000
/-! F1: what the top has written, fact by fact (printed by gen_join.py). -/
namespace BR
open PySem L2 PySem.Spec PyProof.Rows
/-- a def of the top -/
structure DefAt (K : PySem.W.Frag) (x : Str) (st : Stmt) : Prop where
  ex : ∃ f fd, PySem.W.nsIn K mainGlobals x = some (some (.ref f)) ∧ Fun K x x st f fd
structure MethAt (K : PySem.W.Frag) (C : Addr) (m qual : Str) (st : Stmt) : Prop where
  ex : ∃ f fd, Meth K C m f ∧ Fun K m qual st f fd
theorem def_mk {K : PySem.W.Frag} {x : Str} {st : Stmt} {f : Addr} {oc : Value} {od an : Option Addr} {osl : Array (Option Value)} {kV doc pm cdv ct : Value} (a : PySem.W.nsIn K mainGlobals x = some (some (.ref f)))
    (l : K.lookup f = some ⟨oc, od, .func (PySem.W.fnOf x x (defArgs st) (defBody st) (defScope st) .none kV doc pm an cdv ct), osl⟩) (c : PySem.W.codeIn K cdv x = true) (k : PySem.W.keepIn K (.ref f) = true) : DefAt K x st := ⟨f, _, a, fun_mk l c k⟩
theorem meth_mk {K : PySem.W.Frag} {C : Addr} {m qual : Str} {st : Stmt} {f : Addr} {oc : Value} {od an : Option Addr} {osl : Array (Option Value)} {kV doc pm cdv ct : Value} (a : PySem.W.findIn K (.ref C) m = some (some (.ref f))) (i : PySem.W.isFn K (.ref f) = true)
    (l : K.lookup f = some ⟨oc, od, .func (PySem.W.fnOf m qual (defArgs st) (defBody st) (defScope st) .none kV doc pm an cdv ct), osl⟩) (c : PySem.W.codeIn K cdv qual = true) (k : PySem.W.keepIn K (.ref f) = true) : MethAt K C m qual st := ⟨f, _, ⟨a, i, k⟩, fun_mk l c k⟩
/-- a number of the top -/
structure NumAt (K : PySem.W.Frag) (x : Str) (n : Int) : Prop where
  ex : ∃ t, PySem.W.nsIn K mainGlobals x = some (some (.int n t))
/-- the class Table, at C -/
structure TabAt (K : PySem.W.Frag) (C : Addr) : Prop where
  gC : PySem.W.nsIn K mainGlobals "Table" = some (some (.ref C))
  pg : PySem.W.plainGet K C Str.empty = true
  hd : PySem.W.hasDictIn K C = true
  po : PySem.W.plainOver K C = true
  sa : PySem.W.findIn K (.ref C) "__setattr__" = some (some (.builtin "object.__setattr__"))
  mks : PySem.W.makesIn K C = true
  kc : PySem.W.keepIn K (.ref C) = true
  n_owned : PySem.W.findIn K (.ref C) "owned" = some none
  n_days : PySem.W.findIn K (.ref C) "days" = some none
  n_backs : PySem.W.findIn K (.ref C) "backs" = some none
  n_lows : PySem.W.findIn K (.ref C) "lows" = some none
  n_steps : PySem.W.findIn K (.ref C) "steps" = some none
  n_counts : PySem.W.findIn K (.ref C) "counts" = some none
  m0 : MethAt K C "__init__" "Table.__init__" (tabM 0)
  m1 : MethAt K C "low_days" "Table.low_days" (tabM 1)
  m2 : MethAt K C "room" "Table.room" (tabM 2)
  m3 : MethAt K C "follower" "Table.follower" (tabM 3)
  m4 : MethAt K C "followers" "Table.followers" (tabM 4)
  m5 : MethAt K C "state_of" "Table.state_of" (tabM 5)
  m6 : MethAt K C "count_after" "Table.count_after" (tabM 6)
theorem num_mk {K : PySem.W.Frag} {x : Str} {n : Int} {t : Nat} (a : PySem.W.nsIn K mainGlobals x = some (some (.int n t))) : NumAt K x n := ⟨t, a⟩
structure ErrCls (K : PySem.W.Frag) (C : Addr) : Prop where
  ex : ∃ nm q N bs B sn sub ab col dd m0 m1 m2 m3 m5, K.lookup C = some (excClassObj nm q C N bs [.ref B, .type "ValueError", .type "Exception", .type "BaseException", .type "object"] true sn sub ab col dd m0 m1 m2 m3 m5 "ValueError.__new__")
theorem errcls_mk {K : PySem.W.Frag} {C N B : Addr} {nm q : Str} {bs : List Value} {sn : List Str} {sub : List Value} {ab : Bool} {col : Option Bool} {dd : Option Addr} {m0 m1 m2 m3 m5 : Option Value}
    (l : K.lookup C = some (excClassObj nm q C N bs [.ref B, .type "ValueError", .type "Exception", .type "BaseException", .type "object"] true sn sub ab col dd m0 m1 m2 m3 m5 "ValueError.__new__")) : ErrCls K C := ⟨nm, q, N, bs, B, sn, sub, ab, col, dd, m0, m1, m2, m3, m5, l⟩
structure ErrFn (K : PySem.W.Frag) (fI : Addr) : Prop where
  ex : ∃ (oc : Value) (od : Option Addr) (doc pm : Value) (an : Option Addr) (cdv ct : Value) (osl : Array (Option Value)),
    K.lookup fI = some ⟨oc, od, .func (PySem.W.fnOf "__init__" "InvalidNumber.__init__" (PySem.LowX.iA ⟨13, 17, 13, 21⟩ ⟨13, 23, 13, 27⟩) (PySem.LowX.iB ⟨14, 8, 14, 12⟩ ⟨14, 8, 14, 17⟩ ⟨14, 20, 14, 24⟩ ⟨14, 8, 14, 24⟩) PySem.LowX.iS .none .none doc pm an cdv ct), osl⟩ ∧ PySem.W.codeIn K cdv "InvalidNumber.__init__" = true
theorem errfn_mk {K : PySem.W.Frag} {fI : Addr} {oc doc pm cdv ct : Value} {od an : Option Addr} {osl : Array (Option Value)}
    (l : K.lookup fI = some ⟨oc, od, .func (PySem.W.fnOf "__init__" "InvalidNumber.__init__" (PySem.LowX.iA ⟨13, 17, 13, 21⟩ ⟨13, 23, 13, 27⟩) (PySem.LowX.iB ⟨14, 8, 14, 12⟩ ⟨14, 8, 14, 17⟩ ⟨14, 20, 14, 24⟩ ⟨14, 8, 14, 24⟩) PySem.LowX.iS .none .none doc pm an cdv ct), osl⟩)
    (c : PySem.W.codeIn K cdv "InvalidNumber.__init__" = true) : ErrFn K fI := ⟨oc, od, doc, pm, an, cdv, ct, osl, l, c⟩
/-- the class InvalidNumber, at C, and its __init__, at fI -/
structure ErrAt (K : PySem.W.Frag) (C fI : Addr) : Prop where
  gC : PySem.W.nsIn K mainGlobals "InvalidNumber" = some (some (.ref C))
  cls : ErrCls K C
  sa : PySem.W.findIn K (.ref C) "__setattr__" = some (some (.builtin "object.__setattr__"))
  ga : PySem.W.findIn K (.ref C) "__getattribute__" = some (some (.builtin "BaseException.__getattribute__"))
  gg : PySem.W.findIn K (.ref C) "__getattr__" = some none
  nn : PySem.W.findIn K (.ref C) "name" = some none
  iC : PySem.W.findIn K (.ref C) "__init__" = some (some (.ref fI))
  tC : PySem.W.typeIn K (.ref fI) = some (.type "function")
  fn : ErrFn K fI
  kC : PySem.W.keepIn K (.ref C) = true
  eC : PySem.W.subIn K (.ref C) (.type "BaseException") = some true
  tyC : PySem.W.typeIn K (.ref C) = some (.type "type")
  hC : PySem.W.hasDictIn K C = true
  isC : PySem.W.isClsIn K C = true
  sC : PySem.W.subIn K (.ref C) (.ref C) = some true
structure Facts (K : PySem.W.Frag) : Prop where
  tab : ∃ C, TabAt K C
  err : ∃ C fI, ErrAt K C fI
  d11 : DefAt K "is_integer" (top 11)
  d12 : DefAt K "is_at_least" (top 12)
  d13 : DefAt K "is_between" (top 13)
  d14 : DefAt K "is_day" (top 14)
  d15 : DefAt K "require_calendar" (top 15)
  d17 : DefAt K "with_pieces" (top 17)
  d21 : DefAt K "count_rows" (top 21)
  d25 : DefAt K "is_price" (top 25)
  d26 : DefAt K "require_prices" (top 26)
  d27 : DefAt K "paid" (top 27)
  d28 : DefAt K "branches" (top 28)
  d29 : DefAt K "entries_of" (top 29)
  d30 : DefAt K "most_of" (top 30)
  d31 : DefAt K "require_budget" (top 31)
  d32 : DefAt K "levels_within" (top 32)
  d33 : DefAt K "reached" (top 33)
  d34 : DefAt K "least_costs" (top 34)
  d35 : DefAt K "worst_rows" (top 35)
  d36 : DefAt K "cheapest_worst" (top 36)
  d38 : DefAt K "_law_mix" (top 38)
  d39 : DefAt K "_law_source" (top 39)
  d40 : DefAt K "_law_draw" (top 40)
  d41 : DefAt K "_law_choice" (top 41)
  d43 : DefAt K "_law_days" (top 43)
  d44 : DefAt K "_law_is_allowed" (top 44)
  d45 : DefAt K "_law_rows" (top 45)
  d46 : DefAt K "_law_prices" (top 46)
  d47 : DefAt K "_law_breaks_right" (top 47)
  d48 : DefAt K "_law_levels" (top 48)
  d49 : DefAt K "_law_more" (top 49)
  d50 : DefAt K "_law_steps_right" (top 50)
  d51 : DefAt K "_law_right" (top 51)
  d52 : DefAt K "_law_long_right" (top 52)
  d53 : DefAt K "_law_twelve_right" (top 53)
  d54 : DefAt K "law" (top 54)
  c_MAX_DAYS : NumAt K "MAX_DAYS" 100
  c_MAX_OWNED : NumAt K "MAX_OWNED" 12
  c_MAX_STATES : NumAt K "MAX_STATES" 300
  c_MAX_ENTRIES : NumAt K "MAX_ENTRIES" 5000
  c_MAX_LEVELS : NumAt K "MAX_LEVELS" 200
  z_isinstance : PySem.W.nsIn K mainGlobals "isinstance" = some none
  z_int : PySem.W.nsIn K mainGlobals "int" = some none
  z_bool : PySem.W.nsIn K mainGlobals "bool" = some none
  z_tuple : PySem.W.nsIn K mainGlobals "tuple" = some none
  z_list : PySem.W.nsIn K mainGlobals "list" = some none
  z_len : PySem.W.nsIn K mainGlobals "len" = some none
  z_all : PySem.W.nsIn K mainGlobals "all" = some none
  z_enumerate : PySem.W.nsIn K mainGlobals "enumerate" = some none
  z_range : PySem.W.nsIn K mainGlobals "range" = some none
  z_min : PySem.W.nsIn K mainGlobals "min" = some none
  z_max : PySem.W.nsIn K mainGlobals "max" = some none
  z_sum : PySem.W.nsIn K mainGlobals "sum" = some none
  z_dict : PySem.W.nsIn K mainGlobals "dict" = some none
  z_sorted : PySem.W.nsIn K mainGlobals "sorted" = some none
  z_reversed : PySem.W.nsIn K mainGlobals "reversed" = some none
  z_zip : PySem.W.nsIn K mainGlobals "zip" = some none
end BR

set_option Elab.async false
set_option linter.all false
set_option maxRecDepth 100000
set_option maxHeartbeats 4000000
/-! W3: follower, followers. -/
namespace BR
open PySem L2 PySem.Spec PyProof.Rows PD
def kp (p : Int × Int) : NestedKey := .tup [.num p.1, .num p.2]
def kSt (st : State) : NestedKey := .tup (st.map kp)
theorem kd_kp (p : Int × Int) : kd (kp p) = pairD p := rfl
theorem kd_kSt (st : State) : kd (kSt st) = stD st := by
  show D.ktp (kds (st.map kp)) = _
  rw [kds_map, List.map_map]; rfl
theorem kp_inj {p q : Int × Int} (h : kp p = kp q) : p = q := by
  unfold kp at h
  injection h with h
  injection h with h1 h2
  injection h2 with h2 _
  injection h1 with h1
  injection h2 with h2
  exact Prod.ext h1 h2
theorem map_kp_inj : ∀ {l m : State}, l.map kp = m.map kp → l = m
  | [], [], _ => rfl
  | [], _ :: _, h => by cases h
  | _ :: _, [], h => by cases h
  | p :: l, q :: m, h => by
    rw [List.map_cons, List.map_cons] at h
    injection h with h1 h2
    rw [kp_inj h1, map_kp_inj h2]
theorem kSt_inj {l m : State} (h : kSt l = kSt m) : l = m := by
  unfold kSt at h
  injection h with h
  exact map_kp_inj h
def lePB (p q : Int × Int) : Bool := decide (p.1 < q.1) || (decide (p.1 = q.1) && decide (p.2 ≤ q.2))
/-- the pieces that are away behind a day, unordered -/
def followSet (c : Cal) (st : State) (day number : Int) : List (Int × Int) :=
  (putI (mergeI [] st) (at1 (backs c) day) ((valI (mergeI [] st) (at1 (backs c) day)).getD 0 + number)).filter fun p => decide (day + 1 < p.1) && decide (0 < p.2)
def follower (c : Cal) (st : State) (day number : Int) : State := (followSet c st day number).mergeSort lePB
def followers (c : Cal) (st : State) (day : Int) : List State := (upTo 0 (room c st day + 1).toNat).map (follower c st day)
theorem kLt_kp (p q : Int × Int) : kLt (kp q) (kp p) = !lePB p q := by
  unfold kp lePB
  simp only [kLt, kLts]
  by_cases h1 : q.1 < p.1
  · have h2 : ¬ p.1 < q.1 := by omega
    have h3 : ¬ p.1 = q.1 := by omega
    simp [h1, h2, h3]
  · by_cases h2 : p.1 < q.1
    · simp [h1, h2]
    · have h3 : p.1 = q.1 := by omega
      by_cases h4 : q.2 < p.2
      · have h5 : ¬ p.2 ≤ q.2 := by omega
        simp [h1, h2, h3, h4, h5]
      · have h5 : p.2 ≤ q.2 := by omega
        by_cases h6 : p.2 < q.2
        · simp [h1, h2, h3, h4, h5, h6]
        · simp [h1, h2, h3, h4, h5, h6]
theorem lePB_total (p q : Int × Int) : (lePB p q || lePB q p) = true := by
  unfold lePB
  simp only [Bool.or_eq_true, Bool.and_eq_true, decide_eq_true_eq]
  omega
theorem lePB_trans (p q r : Int × Int) (h1 : lePB p q = true) (h2 : lePB q r = true) : lePB p r = true := by
  unfold lePB at *
  simp only [Bool.or_eq_true, Bool.and_eq_true, decide_eq_true_eq] at *
  omega
theorem lePB_anti {p q : Int × Int} (h1 : lePB p q = true) (h2 : lePB q p = true) : p = q := by
  unfold lePB at *
  simp only [Bool.or_eq_true, Bool.and_eq_true, decide_eq_true_eq] at *
  exact Prod.ext (by omega) (by omega)
/-- there is one ordered arrangement -/
theorem sorted_uniq {l : List (Int × Int)} {ks : List NestedKey} (h : Sorted ks (l.map kp)) : ks = (l.mergeSort lePB).map kp := by
  obtain ⟨hp, hs⟩ := h
  -- ks is the image of an arrangement of l
  have : ∀ (ks : List NestedKey), (∀ k ∈ ks, ∃ p, k = kp p) → ∃ m : List (Int × Int), ks = m.map kp := fun ks => by
    induction ks with
    | nil => intro _; exact ⟨[], rfl⟩
    | cons k ks ih =>
      intro h
      obtain ⟨p, e⟩ := h k List.mem_cons_self
      obtain ⟨m, e2⟩ := ih fun x hx => h x (List.mem_cons_of_mem _ hx)
      exact ⟨p :: m, by rw [e, e2]; rfl⟩
  obtain ⟨m, em⟩ := this ks fun k hk => by
    have := hp.mem_iff.mp hk
    obtain ⟨p, _, e⟩ := List.mem_map.mp this
    exact ⟨p, e.symm⟩
  subst em
  have hpm : m.Perm l := by
    have := hp.map (fun k => match k with | .tup [.num a, .num b] => (a, b) | _ => (0, 0))
    rw [List.map_map, List.map_map] at this
    have e : ∀ x : List (Int × Int), x.map ((fun k => match k with | NestedKey.tup [NestedKey.num a, NestedKey.num b] => (a, b) | _ => ((0 : Int), (0 : Int))) ∘ kp) = x := fun x => by
      conv => rhs; rw [← List.map_id x]
      exact List.map_congr_left fun p _ => rfl
    rw [e, e] at this
    exact this
  congr 1
  have hs' : m.Pairwise fun p q => lePB p q = true := by
    rw [List.pairwise_map] at hs
    exact hs.imp fun {p q} h => by rw [kLt_kp] at h; simpa using h
  have ht : (l.mergeSort lePB).Pairwise fun p q => lePB p q = true := List.pairwise_mergeSort (fun a b c h1 h2 => lePB_trans a b c h1 h2) (fun a b => lePB_total a b) l
  exact List.Perm.eq_of_pairwise (le := fun p q => lePB p q = true) (fun a b _ _ h1 h2 => lePB_anti h1 h2) hs' ht (hpm.trans (List.mergeSort_perm l lePB).symm)
theorem sortK_pairs (l : List (Int × Int)) : SortK (l.map kp) where
  hd := fun k hk => let ⟨p, _, e⟩ := List.mem_map.mp hk; ⟨p.1, [.num p.2], e.symm⟩
  dp := fun k hk => by
    obtain ⟨p, _, e⟩ := List.mem_map.mp hk
    rw [← e]
    simp [kp, NestedKey.depth, NestedKey.depthAll]
  cm := fun k hk k' hk' => by
    obtain ⟨p, _, e⟩ := List.mem_map.mp hk
    obtain ⟨q, _, e'⟩ := List.mem_map.mp hk'
    rw [← e, ← e']
    simp [kp, kCmp, kCmps]
theorem pure_pairs (l : List (Int × Int)) : ∀ k ∈ l.map kp, kPure k = true := fun k hk => by
  obtain ⟨p, _, e⟩ := List.mem_map.mp hk
  rw [← e]
  simp [kp, kPure, kPures]
abbrev sFollower : Stmt := tabM 3
abbrev sFollowers : Stmt := tabM 4
section
variable {P : Program} {w : World} {K : PySem.W.Frag} {mg : Str → Option Value} {base : Heap} {f C : Addr} {fd : FuncData}
theorem scFollower : FnScope ["self", "state", "day", "number", "left", "back", "many"] ["self", "state", "day", "number"] (defScope sFollower) := ⟨rfl, rfl, rfl, by decide +kernel, rfl, by decide +kernel, by decide +kernel⟩
abbrev spFollower (M : MW) (C : Addr) : Sp := spO M (fun i : Cal × State × Int × Int => [D.ins C (f0 i.1), stD i.2.1, .int i.2.2.1, .int i.2.2.2]) (fun i => CalOk i.1 ∧ i.2.1.length < 1000 ∧ 1 ≤ i.2.2.1 ∧ i.2.2.1 ≤ nDays i.1) (fun i d => d = stD (follower i.1 i.2.1 i.2.2.1 i.2.2.2))
theorem ok_follower (T : Txt mg) (TC : TabC K C) (F : Fun K "follower" "Table.follower" sFollower f fd) : FnOk P w K mg base CX0 1 f fd ["self", "state", "day", "number"] (spFollower ⟨P, w⟩ C) := by
  refine fn_D F scFollower (fun _ => rfl) (by decide) fun cdv A outer s H E W H0 i hr hp => ?_
  obtain ⟨c, st, day, number⟩ := i
  obtain ⟨ok, hst, h1, h2⟩ := hp
  simp only at ok hst h1 h2
  have hn : nDays c = (c.length : Int) := rfl
  have hl := ok.len
  have hbk : day ≤ (backs c).length := by unfold backs; rw [List.length_map]; omega
  have hml := len_mergeI st []
  rw [List.length_nil] at hml
  refine hs_setNewI 4 (ef_dictI (kvs := st) rfl T.dict (by rw [sizeLine_eq]; omega) (ea_cons (dv 1) ea_nil)) (fun ds e => ?_) (Nat.le_of_ble_eq_true rfl) scFollower.nd
  subst e
  refine hs_iput 4 (k := at1 (backs c) day) (n := (valI (mergeI [] st) (at1 (backs c) day)).getD 0 + number)
    (ed_add (ed_getI (k := at1 (backs c) day) (z := 0) (dv 4) (ed_ixL (ed_fld (dv 0) TC.cls TC.backs rfl) (ed_sub (dv 2) ed_int) (atI_one (d := day) h1 hbk rfl)) ed_int ⟨rfl, rfl, rfl, rfl⟩) (dv 3)) (ov 4)
    (ed_ixL (ed_fld (dv 0) TC.cls TC.backs rfl) (ed_sub (dv 2) ed_int) (atI_one (d := day) h1 hbk rfl)) rfl (by rw [sizeLine_eq]; omega) ?_
  have hpl := len_putI (mergeI [] st) (at1 (backs c) day) ((valI (mergeI [] st) (at1 (backs c) day)).getD 0 + number)
  refine hs_frzI 4 rfl (hs_ret (ed_ktuple (Ks := fun _ => True) (Ka := fun ds => ∃ ks', ds = [.lst (ks'.map kd)] ∧ Sorted ks' ((followSet c st day number).map kp)) (K := fun d => ∃ ks', d = .ktp (ks'.map kd) ∧ Sorted ks' ((followSet c st day number).map kp)) T.tuple
    (ea_consN (K := fun d => ∃ ks', d = .lst (ks'.map kd) ∧ Sorted ks' ((followSet c st day number).map kp)) (Kr := fun ds => ds = [])
      (ed_new (ef_sorted hr.units T.sorted (ea_consN (K := fun d => d = .lst (((followSet c st day number).map kp).map kd)) (Kr := fun ds => ds = [])
        (ed_new (ef_lc (putI (mergeI [] st) (at1 (backs c) day) ((valI (mergeI [] st) (at1 (backs c) day)).getD 0 + number)) (fun q => D.tup [.int q.1, .int q.2]) (fun p => [(5, .int p.1), (6, .int p.2)]) (fun p => decide (day + 1 < p.1) && decide (0 < p.2)) (fun p => pairD p) rfl scFollower.nd (ei_itemsI (dv 4)) (blkOk_by (own := [("back", 5), ("many", 6)]) (by rfl))
          (fun s H C cl fp => pg_tup (n := 2) rfl (pgs_cons (pg_name (i := 5) scFollower.nd rfl (.inl rfl)) (pgs_cons (pg_name (i := 6) scFollower.nd rfl (.inl rfl)) pgs_nil))) (fun p _ => gd_tup (gd_cons gd_name (gd_cons gd_name gd_nil))) (fun p _ q hq => by simp at hq; rcases hq with e | e <;> subst e <;> simp)
          (fun p _ s H C cl fp => td_test1 (PW.pt (tw_and (td_gt (dv 5) (ed_add (dv 2) ed_int)) fun _ => tw_and1 (td_gt (dv 6) ed_int)))) (fun p _ _ s H C cl fp => ed_ktp (ea_cons (dv 5) (ea_cons (dv 6) ea_nil))) (by rw [sizeLine_eq]; omega))
          fun ds e => by rw [e, List.map_map]; rfl) ea_nil (fun d ds e1 e2 => by rw [e1, e2])) (sortK_pairs _) (pure_pairs _)) fun ds ⟨ks', e, hs⟩ => ⟨ks', by rw [e], hs⟩) ea_nil fun d ds ⟨ks', e, hs⟩ e2 => ⟨ks', by rw [e, e2], hs⟩)
    fun ds ⟨ks', e, hs⟩ => ⟨_, e, ks', rfl, hs⟩) fun d ⟨ks', e, hs⟩ => ?_)
  rw [e, sorted_uniq hs, List.map_map]
  rfl

theorem upTo_enc {a : Int} {n : Nat} : (upTo a n).map D.int = (List.range n).map fun i => D.int (a + (i : Nat)) := by
  unfold upTo
  rw [List.map_map]; rfl
/-- bounds that every state of a table keeps -/
structure StB (st : State) : Prop where
  len : st.length < 1000
  num : ∀ p ∈ st, 0 ≤ p.2 ∧ p.2 ≤ 100000
theorem gone_bd : ∀ {st : State} (l : Int), (∀ p ∈ st, 0 ≤ p.2 ∧ p.2 ≤ 100000) → 0 ≤ gone st l ∧ gone st l ≤ 100000 * (st.length : Int)
  | [], l, _ => by unfold gone; simp
  | p :: st, l, h => by
    have ih := gone_bd (st := st) l fun q hq => h q (List.mem_cons_of_mem _ hq)
    have hp := h p List.mem_cons_self
    unfold gone at ih ⊢
    rw [List.filter_cons, List.length_cons]
    split
    · rw [List.map_cons, List.sum_cons]
      omega
    · omega
theorem owned_at {c : Cal} (ok : CalOk c) {d : Int} : 0 ≤ at1 (owned c) d ∧ at1 (owned c) d ≤ 12 := by
  unfold at1 owned
  rw [List.getD_eq_getElem?_getD, List.getElem?_map]
  cases q : c[(d - 1).toNat]? with
  | none => simp
  | some p =>
    have := ok.day _ p q
    exact ⟨this.1, this.2.1⟩
theorem room_bd {c : Cal} (ok : CalOk c) {st : State} (b : StB st) {day : Int} (h1 : 1 ≤ day) (h2 : day ≤ nDays c) : -(2 ^ 40) ≤ room c st day ∧ room c st day ≤ 12 := by
  have hm := minL_mem (spare_ne ok st h1 h2)
  unfold spare at hm
  obtain ⟨l, _, e⟩ := List.mem_map.mp hm
  have g := gone_bd (st := st) l b.num
  have o := owned_at ok (d := l)
  have hl := b.len
  have e : room c st day = at1 (owned c) l - gone st l := e.symm
  omega
theorem scFollowers : FnScope ["self", "state", "day", "number"] ["self", "state", "day"] (defScope sFollowers) := ⟨rfl, rfl, rfl, by decide +kernel, rfl, by decide +kernel, by decide +kernel⟩
abbrev spFollowers (M : MW) (C : Addr) : Sp := spO M (fun i : Cal × State × Int => [D.ins C (f0 i.1), stD i.2.1, .int i.2.2]) (fun i => CalOk i.1 ∧ StB i.2.1 ∧ 1 ≤ i.2.2 ∧ i.2.2 ≤ nDays i.1) (fun i d => d = .lst ((followers i.1 i.2.1 i.2.2).map stD))
theorem ok_followers (T : Txt mg) (TC : TabC K C) (c1 : MCal P w K mg base C 1 "room" ["self", "state", "day"] (spRoom ⟨P, w⟩ C)) (c2 : MCal P w K mg base C 1 "follower" ["self", "state", "day", "number"] (spFollower ⟨P, w⟩ C))
    (F : Fun K "followers" "Table.followers" sFollowers f fd) : FnOk P w K mg base CX0 2 f fd ["self", "state", "day"] (spFollowers ⟨P, w⟩ C) := by
  refine fn_D F scFollowers (fun _ => rfl) (by decide) fun cdv A outer s H E W H0 i hr hp => ?_
  obtain ⟨c, st, day⟩ := i
  obtain ⟨ok, b, h1, h2⟩ := hp
  simp only at ok b h1 h2
  have rb := room_bd ok b h1 h2
  refine hs_ret (K := fun d => d = .lst ((followers c st day).map stD)) (ed_new (ef_lc (upTo 0 (room c st day + 1).toNat) D.int (fun i => [(3, .int i)]) (fun _ => true) (fun i => stD (follower c st day i)) rfl scFollowers.nd
    (by
      rw [upTo_enc]
      exact ei_range1 (n := room c st day + 1) T.range (ea_cons (ed_add (ed_meth c1 (c, st, day) TC.cls hr (dv 0) (by decide) (ea_cons (dv 1) (ea_cons (dv 2) ea_nil)) rfl ⟨ok, b.len, h1, h2⟩ fun _ h => h) ed_int) ea_nil) (by omega) (by omega))
    (blkOk_by (own := [("number", 3)]) (by rfl)) (fun s H C cl fp => pg_name (i := 3) scFollowers.nd rfl (.inl rfl)) (fun i _ => gd_name) (fun i _ q hq => by simp at hq; subst hq; simp) (fun i _ s H C cl fp => td_tests)
    (fun i _ _ s H C' cl fp => ed_meth c2 (c, st, day, i) TC.cls hr (dv 0) (by decide) (ea_cons (dv 1) (ea_cons (dv 2) (ea_cons (dv 3) ea_nil))) rfl ⟨ok, b.len, h1, h2⟩ fun _ h => h) ?_) fun ds e => ?_) fun d e => e
  · unfold upTo
    rw [List.length_map, List.length_range, sizeLine_eq]; omega
  · rw [e, show (upTo 0 (room c st day + 1).toNat).filter (fun _ => true) = upTo 0 (room c st day + 1).toNat from List.filter_eq_self.mpr fun _ _ => rfl]
    unfold followers
    rw [List.map_map]; rfl
end
end BR

set_option Elab.async false
set_option linter.all false
set_option maxRecDepth 100000
set_option maxHeartbeats 4000000
/-! W4: the table as data. -/
namespace BR
open PySem L2 PySem.Spec PyProof.Rows PD
def addS (acc : List State) (s : State) : List State := if s ∈ acc then acc else acc ++ [s]
def nextS (c : Cal) (ss : List State) (day : Int) : List State := (ss.flatMap fun s => followers c s day).foldl addS []
/-- the states after d days -/
def sts (c : Cal) : Nat → List State
  | 0 => [[]]
  | d + 1 => nextS c (sts c d) ((d : Nat) + 1)
/-- the number of rows behind a state, with k days left -/
def cnt (c : Cal) : Nat → State → Int
  | 0, _ => 1
  | k + 1, s => ((followers c s (nDays c - (k : Nat))).map (cnt c k)).sum
structure TabOk (c : Cal) : Prop where
  ok : CalOk c
  size : ∀ d, d ≤ c.length → (sts c d).length ≤ 300
  bd : ∀ d, d ≤ c.length → ∀ s ∈ sts c d, StB s
  fin : sts c c.length = [[]]
  rm : ∀ d : Nat, d < c.length → ∀ s ∈ sts c d, 0 ≤ room c s ((d : Nat) + 1)
def dctS (ss : List State) (v : State → D) : List (NestedKey × D) := ss.map fun s => (kSt s, v s)
theorem valN_dctS {v : State → D} : ∀ {ss : List State} {s : State}, s ∈ ss → valN (dctS ss v) (kSt s) = some (v s)
  | [], s, h => absurd h (by simp)
  | t :: ss, s, h => by
    show valN ((kSt t, v t) :: dctS ss v) (kSt s) = _
    rw [valN_cons]
    by_cases e : t = s
    · rw [e, if_pos rfl]
    · rw [if_neg fun z => e (kSt_inj z)]
      rcases List.mem_cons.mp h with z | z
      · exact absurd z.symm e
      · exact valN_dctS z
theorem valN_dctS_none {v : State → D} : ∀ {ss : List State} {s : State}, s ∉ ss → valN (dctS ss v) (kSt s) = none
  | [], s, h => rfl
  | t :: ss, s, h => by
    show valN ((kSt t, v t) :: dctS ss v) (kSt s) = _
    rw [valN_cons, if_neg fun z => h (by rw [kSt_inj z]; exact List.mem_cons_self)]
    exact valN_dctS_none fun z => h (List.mem_cons_of_mem _ z)
theorem putN_new {ss : List State} {v : State → D} {s : State} (h : s ∉ ss) : putN (dctS ss v) (kSt s) (v s) = dctS (ss ++ [s]) v := by
  unfold putN
  rw [valN_dctS_none h]
  show dctS ss v ++ [(kSt s, v s)] = _
  unfold dctS
  rw [List.map_append]; rfl
theorem putN_old {ss : List State} {v : State → D} {s : State} (h : s ∈ ss) : putN (dctS ss v) (kSt s) (v s) = dctS ss v := by
  unfold putN
  rw [valN_dctS h]
  show (dctS ss v).map _ = _
  unfold dctS
  rw [List.map_map]
  refine List.map_congr_left fun t _ => ?_
  show (if kSt t = kSt s then (kSt t, v s) else (kSt t, v t)) = (kSt t, v t)
  by_cases e : kSt t = kSt s
  · rw [if_pos e, kSt_inj e]
  · rw [if_neg e]
theorem putN_addS {ss : List State} {v : State → D} {s : State} : putN (dctS ss v) (kSt s) (v s) = dctS (addS ss s) v := by
  unfold addS
  by_cases h : s ∈ ss
  · rw [if_pos h, putN_old h]
  · rw [if_neg h, putN_new h]
theorem foldD_S {v : State → D} : ∀ {ss : List State} {acc : List State}, foldD (fun s : State => s.map kp) v (dctS acc v) ss = dctS (ss.foldl addS acc) v
  | [], acc => rfl
  | s :: ss, acc => by
    show foldD (fun s : State => s.map kp) v (putN (dctS acc v) (kSt s) (v s)) ss = _
    rw [putN_addS, foldD_S]; rfl
theorem addS_nodup : ∀ {ss acc : List State}, acc.Nodup → (ss.foldl addS acc).Nodup
  | [], acc, h => h
  | s :: ss, acc, h => by
    refine addS_nodup (ss := ss) (acc := addS acc s) ?_
    unfold addS
    split
    · exact h
    · rename_i hn
      rw [List.nodup_append]
      exact ⟨h, by simp, fun a ha b hb e => hn (by rw [← List.mem_singleton.mp hb, ← e]; exact ha)⟩
theorem addS_of_nodup : ∀ {ss acc : List State}, (acc ++ ss).Nodup → ss.foldl addS acc = acc ++ ss
  | [], acc, _ => by simp
  | s :: ss, acc, h => by
    have hs : s ∉ acc := fun m => (List.nodup_append.mp h).2.2 s m s List.mem_cons_self rfl
    have e : addS acc s = acc ++ [s] := by unfold addS; exact if_neg hs
    show ss.foldl addS (addS acc s) = _
    rw [e, addS_of_nodup (by simpa using h)]
    simp
theorem mem_addS : ∀ {ss acc : List State} {s : State}, s ∈ ss.foldl addS acc ↔ s ∈ acc ∨ s ∈ ss
  | [], acc, s => by simp
  | t :: ss, acc, s => by
    show s ∈ ss.foldl addS (addS acc t) ↔ _
    rw [mem_addS]
    unfold addS
    split
    · rename_i h
      constructor
      · rintro (h1 | h1)
        · exact .inl h1
        · exact .inr (List.mem_cons_of_mem _ h1)
      · rintro (h1 | h1)
        · exact .inl h1
        · rcases List.mem_cons.mp h1 with e | e
          · rw [e]; exact .inl h
          · exact .inr e
    · constructor
      · rintro (h1 | h1)
        · rcases List.mem_append.mp h1 with q | q
          · exact .inl q
          · exact .inr (by rw [List.mem_singleton.mp q]; exact List.mem_cons_self)
        · exact .inr (List.mem_cons_of_mem _ h1)
      · rintro (h1 | h1)
        · exact .inl (List.mem_append_left _ h1)
        · rcases List.mem_cons.mp h1 with e | e
          · exact .inl (List.mem_append_right _ (by rw [e]; exact List.mem_singleton.mpr rfl))
          · exact .inr e
theorem sts_nodup (c : Cal) : ∀ d, (sts c d).Nodup
  | 0 => by simp [sts]
  | d + 1 => addS_nodup List.nodup_nil
theorem mem_sts {c : Cal} {d : Nat} {s t : State} (h : s ∈ sts c d) (h2 : t ∈ followers c s ((d : Nat) + 1)) : t ∈ sts c (d + 1) :=
  mem_addS.mpr (.inr (List.mem_flatMap.mpr ⟨s, h, h2⟩))
theorem foldD_sts {v : State → D} {ss : List State} (h : ss.Nodup) : foldD (fun s : State => s.map kp) v [] ss = dctS ss v := by
  have := foldD_S (v := v) (ss := ss) (acc := [])
  rw [addS_of_nodup (by simpa using h)] at this
  exact this
theorem foldD2_sts {v : State → D} {ys : State → List State} : ∀ {ss acc : List State}, foldD2 ys (fun _ t : State => t.map kp) (fun _ => v) (dctS acc v) ss = dctS ((ss.flatMap ys).foldl addS acc) v
  | [], acc => rfl
  | s :: ss, acc => by
    show foldD2 ys (fun _ t : State => t.map kp) (fun _ => v) (foldD (fun t : State => t.map kp) v (dctS acc v) (ys s)) ss = _
    rw [foldD_S, foldD2_sts, List.flatMap_cons, List.foldl_append]
/-! the pieces of the table -/
def stepK (c : Cal) (d : Nat) : List (NestedKey × D) := dctS (sts c d) fun s => .lst ((followers c s ((d : Nat) + 1)).map stD)
def lastK (c : Cal) (d : Nat) : List (NestedKey × D) := dctS (sts c d) fun _ => .lst []
def cntK (c : Cal) (k : Nat) : List (NestedKey × D) := dctS (sts c (c.length - k)) fun s => .int (cnt c k s)
def stepsL (c : Cal) (i : Nat) : List D := (List.range i).map (fun d => D.dct (stepK c d)) ++ [.dct (lastK c i)]
def countsL (c : Cal) (k : Nat) : List D := (List.range (k + 1)).map fun j => D.dct (cntK c j)
def tabF (c : Cal) : List (Str × D) := [("lows", .lst ((lows c).map intsD)), ("backs", intsD (backs c)), ("days", .int (nDays c)), ("owned", intsD (owned c)), ("counts", .flst (countsL c c.length).reverse), ("steps", .flst (stepsL c c.length))]
abbrev tabD (C : Addr) (c : Cal) : D := .ins C (tabF c)
/-! ### smaller tables -/
def SubF (fs : List (Str × D)) : List (Str × D) → Prop
  | [] => True
  | (f, d) :: r => fs.lookup f = some d ∧ SubF fs r
theorem Rep.sub {M : MW} {W : Wd} {H : Hp} {C : Addr} {fs : List (Str × D)} {v : V} : ∀ {fs' : List (Str × D)}, Rep M W H (.ins C fs) v → SubF fs fs' → Rep M W H (.ins C fs') v := fun {fs'} ⟨a, dx, gs, e, n, h1, h2, h3⟩ s => ⟨a, dx, gs, e, n, h1, h2, by
  induction fs' with
  | nil => trivial
  | cons x r ih => exact ⟨h3.get s.1, ih s.2⟩⟩
section
variable {X : Cx} {r : List (Option D)} {e a b : Expr} {pos p : Pos} {C : Addr} {fs fs' : List (Str × D)}
theorem ed_subF (h : PE X e (tD (pw X) r (.ins C fs))) (s : SubF fs fs') : PE X e (tD (pw X) r (.ins C fs')) := h.wk fun σ H Q ⟨W, hs, ok, q⟩ => ⟨W, hs, ok, fun v H2 d kd e rv => by subst kd; exact q v H2 _ rfl e (BR.Rep.sub rv s)⟩
theorem ed_dget {kvs : List (NestedKey × D)} {ks : List NestedKey} {d : D} (hu : X.A.units + 64 < cLine) (ha : PE X a (tD (pw X) r (.dct kvs))) (hb : PE X b (tD (pw X) r (kd (.tup ks)))) (h : valN kvs (.tup ks) = some d) (hd : (NestedKey.tup ks).depth ≤ 8) (hs : NoSl b := by intro _ _; rfl) : PE X (.Subscript a b pos) (tD (pw X) r d) :=
  (pe_dgetN hu ha hb hs).wk (tOp_D (op2_dget h hd))
theorem depth_kSt (st : State) : (kSt st).depth ≤ 8 := by
  have : ∀ l : List (Int × Int), NestedKey.depthAll (l.map kp) ≤ 1 := fun l => by
    induction l with
    | nil => simp [NestedKey.depthAll]
    | cons q l ih =>
      rw [List.map_cons, NestedKey.depthAll]
      have : (kp q).depth = 1 := by simp [kp, NestedKey.depth, NestedKey.depthAll]
      omega
  have := this st
  show NestedKey.depthAll (st.map kp) + 1 ≤ 8
  omega
/-- a state as a key -/
theorem ed_key {st : State} (h : PE X e (tD (pw X) r (stD st))) : PE X e (tD (pw X) r (kd (.tup (st.map kp)))) := ed_is h (kd_kSt st).symm
end
end BR

set_option Elab.async false
set_option linter.all false
set_option maxRecDepth 100000
set_option maxHeartbeats 4000000
/-! W5: Table(calendar). -/
namespace BR
open PySem L2 PySem.Spec PyProof.Rows PD
abbrev sInit : Stmt := tabM 0
def NInit : List Str := ["self", "calendar", "day", "step", "following", "last", "owned", "back", "state", "later", "found"]
def spInit (M : MW) (C : Addr) : Sp := fun vs H Q _ => ∃ (W : Wd) (H1 : Hp) (x dx : Addr) (v : V) (c : Cal), vs = [.ref x, v] ∧ H = upd (upd H1 dx (.own x)) x (.ins C dx []) ∧ H1 x = none ∧ H1 dx = none ∧ dx ≠ x ∧ W.ok H1 ∧ Rep M W H1 (calD c) v ∧ TabOk c ∧
  ∀ H', Ext W H1 H' → Rep M W H' (tabD C c) (.ref x) → Q .non H'
section
variable {P : Program} {w : World} {K : PySem.W.Frag} {mg : Str → Option Value} {base : Heap} {f C : Addr} {fd : FuncData}
theorem fn_init {k : Nat} (F : Fun K "__init__" "Table.__init__" sInit f fd) (S : FnScope NInit ["self", "calendar"] (defScope sInit))
    (body : ∀ (cdv : Value) (A : Around) (outer : List Env) (s : Shared) (H : Hp) (E : XK) (W : Wd) (H1 : Hp) (x dx : Addr) (c : Cal), Room k (A.deeper (envOfC "Table.__init__" (defScope sInit) s.heap.objs.size f cdv)) → TabOk c → Base (cxOf CX0 P w K mg base NInit "Table.__init__" (defScope sInit) f cdv A outer s H E).nox H1 x dx [] →
      Hs (cxOf CX0 P w K mg base NInit "Table.__init__" (defScope sInit) f cdv A outer s H E).nox (defBody sInit) (At ⟨P, w⟩ W H1 (.selfS x dx C [] [] :: .val (calD c) :: List.replicate 9 Slot.none)) { nx := fun _ H' => Ext W H1 H' ∧ Rep ⟨P, w⟩ W H' (tabD C c) (.ref x), rt := fun _ _ => False }) :
    FnOk P w K mg base CX0 (k + 1) f fd ["self", "calendar"] (spInit ⟨P, w⟩ C) := by
  refine F.ok S (fun vs H Q E h => ?_) (fun cdv A outer s H vs Q E hr h => ?_)
  · obtain ⟨W, H1, x, dx, v, c, e, _⟩ := h
    rw [e]; rfl
  · obtain ⟨W, H1, x, dx, v, c, e, eH, hx, hdx, hne, ok, rv, tok, q⟩ := h
    have hB : Base (cxOf CX0 P w K mg base NInit "Table.__init__" (defScope sInit) f cdv A outer s H E).nox H1 x dx [] := ⟨hx, (fun _ h => nomatch h), List.nodup_nil, fun a o h => by
      have h : H a = some o := h
      rw [eH] at h
      by_cases z : a = x
      · exact .inl z
      · rw [upd_ne z] at h
        by_cases z2 : a = dx
        · exact .inr (.inl z2)
        · rw [upd_ne z2] at h
          exact .inr (.inr ⟨o, h⟩)⟩
    refine ⟨_, pss_hs (ι := Unit) fun _ => body cdv A outer s H E W H1 x dx c hr tok hB, (), ?_, fun σ H' h => ?_, fun v H' h => h.elim, fun _ _ h => h, fun _ _ h => h⟩
    · have e1 : Ext W H1 H := by rw [eH]; exact ((Ext.new hdx).mut hx)
      refine ⟨fun _ => none, ok, e1, ?_, fun _ _ _ h => (nomatch h), fun _ _ h => (nomatch h), fun _ _ h => (nomatch h), fun j s' h => ?_⟩
      · rw [e]; rfl
      · have wk : Car W (W.adds (OwnS fun _ => none)) H H := ⟨fun b o n h => ⟨h, fun z => z.elim n fun ⟨j, z⟩ => nomatch z⟩, fun _ t => t⟩
        subst e
        match j, h with
        | 0, h =>
          cases h
          exact ⟨rfl, rfl, (fun z => (show W.S x ∨ OwnS (fun _ => Option.none) x from z).elim (ok.nS hx) fun ⟨j, z⟩ => nomatch z), [], (by rw [eH]; exact upd_same), fun _ _ => rfl, Nat.le_refl _, trivial, fun _ h => nomatch h⟩
        | 1, h =>
          cases h
          exact ⟨rfl, v, rfl, Rep.car wk _ _ (rv.ext ok e1)⟩
        | j + 2, h =>
          have hs' : s' = Slot.none := by
            have h : (List.replicate 9 Slot.none)[j]? = some s' := h
            exact (List.mem_replicate.mp (List.mem_of_getElem? h)).2
          subst hs'
          rfl
    · exact q H' h.1 h.2
theorem scInit : FnScope NInit ["self", "calendar"] (defScope sInit) := ⟨rfl, rfl, rfl, by decide +kernel, rfl, by decide +kernel, by decide +kernel⟩
theorem dayD_pl (p : Day) : isPl (dayD p) = true := by
  obtain ⟨o, b⟩ := p
  cases b <;> simp [isPl, isPls, optD]
theorem ints_pl (l : List Int) : isPls (l.map D.int) = true := by
  rw [isPls_rev, List.all_map]
  exact List.all_eq_true.mpr fun _ _ => by simp [isPl]
def FS0 (c : Cal) : List (Str × D) := [("lows", .lst ((lows c).map intsD)), ("backs", intsD (backs c)), ("days", .int (nDays c)), ("owned", intsD (owned c))]
theorem lows_pl (c : Cal) : isPl (.lst ((lows c).map intsD)) = true := by
  show isPls _ = true
  rw [isPls_rev, List.all_map]
  exact List.all_eq_true.mpr fun l _ => ints_pl l
theorem fs0_facts (c : Cal) : (∀ more, SubF (FS0 c ++ more) (f0 c)) ∧ (∀ more, List.lookup ("days" : Str) (FS0 c ++ more) = some (.int (nDays c))) ∧ (∀ more, List.lookup ("steps" : Str) (FS0 c ++ more) = List.lookup ("steps" : Str) more) ∧ (∀ more, List.lookup ("counts" : Str) (FS0 c ++ more) = List.lookup ("counts" : Str) more) ∧ plF (FS0 c) = true ∧ (∀ x ∈ FS0 c, x.1 ≠ "steps" ∧ x.1 ≠ "counts") ∧ (FS0 c).length = 4 := by
  refine ⟨fun more => ⟨rfl, rfl, rfl, rfl, trivial⟩, fun more => rfl, fun more => rfl, fun more => rfl, ?_, fun x h => ?_, rfl⟩
  · simp [FS0, plF, lows_pl]; simp [isPl, ints_pl]
  · simp [FS0] at h
    rcases h with e | e | e | e <;> subst e
    · exact ⟨show ("lows" : Str) ≠ "steps" by decide, show ("lows" : Str) ≠ "counts" by decide⟩
    · exact ⟨show ("backs" : Str) ≠ "steps" by decide, show ("backs" : Str) ≠ "counts" by decide⟩
    · exact ⟨show ("days" : Str) ≠ "steps" by decide, show ("days" : Str) ≠ "counts" by decide⟩
    · exact ⟨show ("owned" : Str) ≠ "steps" by decide, show ("owned" : Str) ≠ "counts" by decide⟩
theorem stD_pl (st : State) : isPl (stD st) = true := by
  show isPls (st.map pairD) = true
  rw [isPls_rev, List.all_map]
  exact List.all_eq_true.mpr fun p _ => by simp [isPl, isPls, PD.pairD]
theorem isPlk_all : ∀ {l : List (NestedKey × D)}, isPlk l = l.all fun x => isPl x.2
  | [] => rfl
  | (k, d) :: l => by rw [isPlk, List.all_cons, isPlk_all]
theorem dctS_pl {ss : List State} {v : State → D} (h : ∀ s ∈ ss, isPl (v s) = true) : isPl (.dct (dctS ss v)) = true := by
  show isPlk (dctS ss v) = true
  rw [isPlk_all]
  unfold dctS
  rw [List.all_map]
  exact List.all_eq_true.mpr fun s hs => h s hs
theorem stepK_pl (c : Cal) (d : Nat) : isPl (.dct (stepK c d)) = true := dctS_pl fun s _ => by
  show isPls _ = true
  rw [isPls_rev, List.all_map]
  exact List.all_eq_true.mpr fun t _ => stD_pl t
theorem lastK_pl (c : Cal) (d : Nat) : isPl (.dct (lastK c d)) = true := dctS_pl fun s _ => by simp [isPl, isPls]
theorem cntK_pl (c : Cal) (d : Nat) : isPl (.dct (cntK c d)) = true := dctS_pl fun s _ => by simp [isPl]
theorem stepsL_pl (c : Cal) (i : Nat) : isPls (stepsL c i) = true := by
  rw [isPls_rev]
  unfold stepsL
  rw [List.all_append, List.all_map]
  simp only [Bool.and_eq_true]
  exact ⟨List.all_eq_true.mpr fun d _ => stepK_pl c d, by simp [lastK_pl]⟩
theorem countsL_pl (c : Cal) (i : Nat) : isPls (countsL c i) = true := by
  rw [isPls_rev]
  unfold countsL
  rw [List.all_map]
  exact List.all_eq_true.mpr fun d _ => cntK_pl c d
theorem stepsL_len (c : Cal) (i : Nat) : (stepsL c i).length = i + 1 := by unfold stepsL; simp
theorem countsL_len (c : Cal) (i : Nat) : (countsL c i).length = i + 1 := by unfold countsL; simp
theorem atI_back {ds : List D} {d : D} (h : ds.getLast? = some d) : atI ds (-1) = some d := by
  have hne : ds ≠ [] := fun z => by rw [z] at h; cases h
  have hl : 0 < ds.length := List.length_pos_iff.mpr hne
  unfold atI ixN
  rw [if_neg (by omega), if_pos (by omega)]
  show ds[(-1 + (ds.length : Int)).toNat]? = _
  rw [show (-1 + (ds.length : Int)).toNat = ds.length - 1 by omega, ← List.getLast?_eq_getElem?, h]
theorem stepsL_last (c : Cal) (i : Nat) : atI (stepsL c i) (-1) = some (.dct (lastK c i)) := atI_back (by unfold stepsL; simp)
theorem stepsL_next (c : Cal) (i : Nat) : (stepsL c i).set i (.dct (stepK c i)) ++ [.dct (lastK c (i + 1))] = stepsL c (i + 1) := by
  unfold stepsL
  rw [List.set_append_right _ _ (by simp), List.range_succ, List.map_append]
  simp
theorem countsL_last (c : Cal) (i : Nat) : atI (countsL c i) (-1) = some (.dct (cntK c i)) := atI_back (by unfold countsL; simp [List.range_succ])
theorem countsL_next (c : Cal) (i : Nat) : countsL c i ++ [.dct (cntK c (i + 1))] = countsL c (i + 1) := by
  unfold countsL
  rw [List.range_succ (n := i + 1), List.map_append]
  rfl
theorem setQ_one {f : Str} {q : Addr} {ds ds' : List D} : setQ q ds' [(f, q, ds)] = [(f, q, ds')] := by unfold setQ; simp
theorem init_rest {cdv : Value} {A : Around} {outer : List Env} {s : Shared} {H : Hp} {E : XK} {W : Wd} {H1 : Hp} {x dx : Addr} {c : Cal} {FS : List (Str × D)} (T : Txt mg) (TC : TabC K C) (c2 : MCal P w K mg base C 2 "followers" ["self", "state", "day"] (spFollowers ⟨P, w⟩ C)) (tok : TabOk c)
    (hr : Room 2 (A.deeper (envOfC "Table.__init__" (defScope sInit) s.heap.objs.size f cdv)))
    (hF : (∀ more, SubF (FS ++ more) (f0 c)) ∧ (∀ more, List.lookup ("days" : Str) (FS ++ more) = some (.int (nDays c))) ∧ (∀ more, List.lookup ("steps" : Str) (FS ++ more) = List.lookup ("steps" : Str) more) ∧ (∀ more, List.lookup ("counts" : Str) (FS ++ more) = List.lookup ("counts" : Str) more) ∧ plF FS = true ∧ (∀ x ∈ FS, x.1 ≠ "steps" ∧ x.1 ≠ "counts") ∧ FS.length = 4)
    (B : Base (cxOf CX0 P w K mg base NInit "Table.__init__" (defScope sInit) f cdv A outer s H E).nox H1 x dx []) :
    Hs (cxOf CX0 P w K mg base NInit "Table.__init__" (defScope sInit) f cdv A outer s H E).nox ((defBody sInit).drop 4) (At ⟨P, w⟩ W H1 (.selfS x dx C FS [] :: .val (calD c) :: List.replicate 9 Slot.none)) { nx := fun _ H' => Ext W H1 H' ∧ Rep ⟨P, w⟩ W H' (.ins C (FS ++ [(("counts" : Str), D.flst (countsL c c.length).reverse), (("steps" : Str), D.flst (stepsL c c.length))])) (.ref x), rt := fun _ _ => False } := by
  obtain ⟨hsub, hdays, hst, hct, hplF, hnS, hFl⟩ := hF
  have hcal : isPl (calD c) = true := by
    show isPls (c.map dayD) = true
    rw [isPls_rev, List.all_map]
    exact List.all_eq_true.mpr fun p _ => dayD_pl p
  have hu : (cxOf CX0 P w K mg base NInit "Table.__init__" (defScope sInit) f cdv A outer s H E).nox.A.units + 64 < cLine := hr.units
  -- self.steps
  refine @hs_fsetL _ _ _ _ _ _ _ _ _ _ _ _ _ _ _ _ (Ks := fun ds => ds = stepsL c 0) (ef_lstN (Ks := fun ds => ds = stepsL c 0) (ea_consN (K := fun d => d = .dct [(kSt [], .lst [])]) (Kr := fun ds => ds = []) (ed_newD (ef_dct1 (ks := []) (d := .lst []) hu (ed_ktp (ds := []) ea_nil) (ed_new (ef_lst ea_nil) fun ds e => by rw [e]) (depth_kSt [])) fun kvs e => by rw [e]; rfl) ea_nil fun d ds e1 e2 => by rw [e1, e2]; rfl) fun ds e => by rw [e]; exact Nat.le_of_ble_eq_true rfl) 
    (ov 0) TC.cls TC.steps (by decide) B hplF rfl (by simp [plS, hcal, List.replicate]) (fun x h => (hnS x h).1) (fun _ h => nomatch h) (by rw [hFl]; exact Nat.le_of_ble_eq_true rfl) (fun ds e => by rw [e]; rfl) (fun q ds e B1 => ?_) rfl
  subst e
  have hn : nDays c = (c.length : Int) := rfl
  have hlen := tok.ok.len
  have hfl : ∀ d, d < c.length → ∀ st ∈ sts c d, (followers c st ((d : Nat) + 1)).length ≤ 13 := fun d hd st hs => by
    have := room_bd tok.ok (tok.bd d (by omega) st hs) (day := (d : Nat) + 1) (by omega) (by omega)
    unfold followers upTo
    rw [List.length_map, List.length_map, List.length_range]
    omega
  have hsz : ∀ d, d < c.length → ((sts c d).map fun st => (followers c st ((d : Nat) + 1)).length).sum < sizeLine := fun d hd => by
    have h3 : ∀ (l : List State), (∀ st ∈ l, (followers c st ((d : Nat) + 1)).length ≤ 13) → (l.map fun st => (followers c st ((d : Nat) + 1)).length).sum ≤ 13 * l.length := fun l => by
      induction l with
      | nil => intro _; simp
      | cons a l ih =>
        intro h
        have h1 := h a List.mem_cons_self
        have h2 := ih fun y hy => h y (List.mem_cons_of_mem _ hy)
        rw [List.map_cons, List.sum_cons, List.length_cons]
        omega
    have := h3 _ (hfl d hd)
    have := tok.size d (by omega)
    rw [sizeLine_eq]
    omega
  have hstl : ∀ d, d ≤ c.length → (sts c d).length < sizeLine := fun d hd => by
    have := tok.size d hd
    rw [sizeLine_eq]
    omega
  obtain ⟨tms, hms⟩ := T.maxStates
  refine hs_forGR (K' := fun _ => False) B1 (fun i r' => ∃ a b d, plS a = true ∧ plS b = true ∧ plS d = true ∧ r' = .selfS x dx C FS [("steps", q, stepsL c i)] :: .val (calD c) :: a :: b :: d :: List.replicate 6 Slot.none) rfl PassesOwn.never T.range
    (ea_cons ed_int (ea_cons (ed_add (ed_fld (dv 0) TC.cls TC.days (hdays _)) ed_int) ea_nil)) (l := 1) (n := nDays c + 1) (by omega) (pg_name (i := 2) scInit.nd rfl (.inr rfl)) ⟨.none, .none, .none, rfl, rfl, rfl, rfl⟩ (fun i => [(2, .int i)]) (fun i => gd_name) ?_ (fun v H h => by obtain ⟨_, h, _⟩ := h; exact h.elim) ?_
  · rintro L i r' BL hi ⟨a, b, d, pa, pb, pd, rfl⟩
    have BL : Base (cxOf CX0 P w K mg base NInit "Table.__init__" (defScope sInit) f cdv A outer s H E).nox L x dx [("steps", q, stepsL c i)] := by
      have h := BL.setQ q (stepsL c i)
      rw [setQ_one] at h
      exact h
    have huL : (cxOf CX0 P w K mg base NInit "Table.__init__" (defScope sInit) f cdv A outer s H E).nox.A.units + 64 < cLine := hu
    have hi' : i < c.length := by omega
    have e1 : (1 : Int) + (i : Nat) = (i : Nat) + 1 := by omega
    have hlook : ∀ ls : List D, List.lookup ("steps" : Str) (FS ++ List.map (fun y : Str × Addr × List D => (y.1, D.flst y.2.2)) [("steps", q, ls)]) = some (.flst ls) := fun ls => by rw [hst]; rfl
    have eK : (lastK c i).map (fun z => kd z.1) = (sts c i).map fun st => kd (kSt st) := by unfold lastK dctS; rw [List.map_map]; rfl
    refine hs_setDc 3 (sts c i) (fun st => kd (kSt st)) (fun st => [(8, kd (kSt st))]) (fun st => st.map kp) (fun st => .lst ((followers c st ((i : Nat) + 1)).map stD)) huL rfl scInit.nd
      (by rw [← eK]; exact ei_keysN (ed_ixF (ed_fld (dv 0) TC.cls TC.steps (hlook _)) (ed_neg ed_int) (stepsL_last c i)))
      (blkOk_by (own := [("state", 8)]) (by rfl)) (fun s H C cl fp => pg_name (i := 8) scInit.nd rfl (.inl rfl)) (fun st _ => gd_name) (fun st _ p hp => by simp at hp; subst hp; simp) (fun st _ s H C cl fp => dv 8)
      (fun st hs s' H' C' cl fp => ed_meth c2 (c, st, (i : Nat) + 1) TC.cls hr (ed_subF (fs' := f0 c) (dv 0) (hsub _)) (by decide) (ea_cons (ed_is (dv 8) (kd_kSt st)) (ea_cons (ed_is (dv 2) (by rw [e1])) ea_nil)) rfl ⟨tok.ok, tok.bd i (by omega) st hs, (by show (1 : Int) ≤ (i : Nat) + 1; omega), (by show ((i : Nat) : Int) + 1 ≤ nDays c; omega)⟩ fun _ h => h)
      (hstl i (by omega)) (fun st _ => depth_kSt st) (Nat.le_of_ble_eq_true rfl) ?_ (sw_trueD rfl rfl rfl (by decide +kernel))
    rw [foldD_sts (sts_nodup c i)]
    change Hs _ _ (At _ _ _ (.selfS x dx C FS [("steps", q, stepsL c i)] :: .val (calD c) :: .val (.int (1 + (i : Nat))) :: .val (.dct (stepK c i)) :: d :: List.replicate 6 Slot.none)) _
    have eV : (stepK c i).map (fun z => z.2) = (sts c i).map fun st => D.lst ((followers c st ((i : Nat) + 1)).map stD) := by unfold stepK dctS; rw [List.map_map]; rfl
    refine hs_setDc2 4 (sts c i) (fun st => .lst ((followers c st ((i : Nat) + 1)).map stD)) (fun st => [(10, .lst ((followers c st ((i : Nat) + 1)).map stD))]) (fun st => followers c st ((i : Nat) + 1)) (fun _ t => stD t) (fun _ t => [(9, stD t)]) (fun _ t => t.map kp) (fun _ _ => .lst []) huL rfl scInit.nd
      (by rw [← eV]; exact ei_valsN (dv 3))
      (blkOk_by (own := [("found", 10), ("later", 9)]) (by rfl)) (vs1 := [9]) (by decide) (fun s H C cl fp => pg_name (i := 10) scInit.nd rfl (.inl rfl)) (fun st _ => gd_name) (fun st _ p hp => by simp at hp; subst hp; simp)
      (fun st _ s H C cl fp => ei_list (dv 10)) (fun s H C cl fp => pg_name (i := 9) scInit.nd rfl (.inl rfl)) (fun st _ t _ => gd_name) (fun st _ t _ p hp => by simp at hp; subst hp; simp)
      (fun st _ t _ s H C cl fp => ed_is (dv 9) (kd_kSt t).symm) (fun st _ t _ s H C cl fp => ed_new (ef_lst ea_nil) fun ds e => by rw [e])
      (hsz i hi') (fun st _ t _ => depth_kSt t) (Nat.le_of_ble_eq_true rfl) ?_ (sw_trueD rfl rfl rfl (by decide +kernel))
    have eF : foldD2 (fun st => followers c st ((i : Nat) + 1)) (fun _ t : State => t.map kp) (fun _ _ => D.lst []) [] (sts c i) = lastK c (i + 1) := foldD2_sts (v := fun _ => .lst []) (acc := [])
    rw [eF]
    change Hs _ _ (At _ _ _ (.selfS x dx C FS [("steps", q, stepsL c i)] :: .val (calD c) :: .val (.int (1 + (i : Nat))) :: .val (.dct (stepK c i)) :: .val (.dct (lastK c (i + 1))) :: List.replicate 6 Slot.none)) _
    have hlk : (lastK c (i + 1)).length = (sts c (i + 1)).length := by unfold lastK dctS; rw [List.length_map]
    have hls3 := tok.size (i + 1) (by omega)
    refine hs_ifF (tt_is (td_gt (ed_lenD T.len (ea_cons (dv 4) ea_nil)) (ed_globI hms)) (by rw [hlk, decide_eq_false_iff_not]; omega)) ?_
    have hpr : (Slot.val (calD c) :: .val (.int (1 + (i : Nat))) :: .val (.dct (stepK c i)) :: .val (.dct (lastK c (i + 1))) :: List.replicate 6 Slot.none).all plS = true := by
      show (isPl (calD c) && (true && (isPl (.dct (stepK c i)) && (isPl (.dct (lastK c (i + 1))) && true)))) = true
      rw [hcal, stepK_pl, lastK_pl]; rfl
    have hls1 : ∀ j, ([((("steps" : Str)), q, stepsL c j)] : List (Str × Addr × List D)).all (fun x => isPls x.2.2) = true := fun j => by simp [stepsL_pl]
    have hls2 : ([((("steps" : Str)), q, (stepsL c i).set i (.dct (stepK c i)))] : List (Str × Addr × List D)).all (fun x => isPls x.2.2) = true := by
      have h1 := stepsL_pl c (i + 1)
      rw [← stepsL_next, isPls_rev, List.all_append] at h1
      simp only [Bool.and_eq_true] at h1
      simp [isPls_rev, h1.1]
    refine hs_fix (K := fun z => z = .dct (stepK c i)) (j := i) (q := q) (dv 3) (ov 0) ((pe_un un_neg pe_int).wk fun σ H Q q => ⟨1, rfl, q⟩) (by rw [stepsL_len]; unfold ixN; rw [if_neg (by omega), if_pos (by omega)]; congr 1; omega) TC.cls TC.steps BL List.mem_cons_self hplF (hls1 i) hpr (fun z e => by rw [e]; exact stepK_pl c i) fun z e => ?_
    subst e
    rw [setQ_one]
    have BL2 := BL.setQ q ((stepsL c i).set i (.dct (stepK c i)))
    rw [setQ_one] at BL2
    refine hs_fapp (K := fun z => z = .dct (lastK c (i + 1))) (q := q) (dv 4) (ov 0) TC.cls TC.steps BL2 List.mem_cons_self hplF hls2 hpr (by rw [List.length_set, stepsL_len, sizeLine_eq]; omega) (fun z e => by rw [e]; exact lastK_pl c (i + 1)) fun z e => ?_
    subst e
    rw [setQ_one, stepsL_next]
    exact hs_nil fun σ H h => ⟨_, ⟨.val (.int (1 + (i : Nat))), .val (.dct (stepK c i)), .val (.dct (lastK c (i + 1))), rfl, stepK_pl c i, lastK_pl c (i + 1), rfl⟩, h⟩
  · rintro r' ⟨a, b, d, pa, pb, pd, rfl⟩
    have hnn : (nDays c + 1 - 1).toNat = c.length := by omega
    rw [hnn]
    generalize hN : c.length = N at *
    have hlook : ∀ ls : List D, List.lookup ("steps" : Str) (FS ++ List.map (fun y : Str × Addr × List D => (y.1, D.flst y.2.2)) [("steps", q, ls)]) = some (.flst ls) := fun ls => by rw [hst]; rfl
    have B2 : Base (cxOf CX0 P w K mg base NInit "Table.__init__" (defScope sInit) f cdv A outer s H E).nox H1 x dx [("steps", q, stepsL c N)] := by
      have h := B1.setQ q (stepsL c N)
      rw [setQ_one] at h
      exact h
    have hpr0 : (Slot.val (calD c) :: a :: b :: d :: List.replicate 6 Slot.none).all plS = true := by
      show (isPl (calD c) && (plS a && (plS b && (plS d && true)))) = true
      rw [hcal, pa, pb, pd]; rfl
    have hls0 : ([((("steps" : Str)), q, stepsL c N)] : List (Str × Addr × List D)).all (fun x => isPls x.2.2) = true := by simp [stepsL_pl]
    have hk0 : [D.dct [(kSt [], .int 1)]] = countsL c 0 := by
      show _ = [D.dct (cntK c 0)]
      unfold cntK
      rw [Nat.sub_zero, tok.fin]
      rfl
    refine @hs_fsetL _ _ _ _ _ _ _ _ _ _ _ _ _ _ _ _ (Ks := fun ds => ds = countsL c 0) (ef_lstN (Ks := fun ds => ds = countsL c 0) (ea_consN (K := fun d => d = .dct [(kSt [], .int 1)]) (Kr := fun ds => ds = []) (ed_newD (ef_dct1 (ks := []) (d := .int 1) hu (ed_ktp (ds := []) ea_nil) ed_int (depth_kSt [])) fun kvs e => by rw [e]; rfl) ea_nil fun d ds e1 e2 => by rw [e1, e2]; exact hk0) fun ds e => by rw [e]; exact Nat.le_of_ble_eq_true rfl)
      (ov 0) TC.cls TC.counts (by decide) B2 hplF hls0 hpr0 (fun x h => (hnS x h).2) (fun y h => by rw [List.mem_singleton.mp h]; show ("steps" : Str) ≠ "counts"; decide) (by rw [hFl]; exact Nat.le_of_ble_eq_true rfl) (fun ds e => by rw [e]; exact countsL_pl c 0) (fun qc ds e B3 => ?_) rfl
    subst e
    have hqq : qc ≠ q := fun z => by
      have := B3.nd
      simp [z] at this
    have hsetC : ∀ ds ds', setQ qc ds' [((("counts" : Str)), qc, ds), ((("steps" : Str)), q, stepsL c N)] = [(("counts" : Str), qc, ds'), (("steps" : Str), q, stepsL c N)] := fun ds ds' => by
      unfold setQ
      simp [Ne.symm hqq]
    have hl1 : ∀ ls : List D, List.lookup ("steps" : Str) (FS ++ List.map (fun y : Str × Addr × List D => (y.1, D.flst y.2.2)) [("counts", qc, ls), ("steps", q, stepsL c N)]) = some (.flst (stepsL c N)) := fun ls => by rw [hst]; rfl
    have hl2 : ∀ ls : List D, List.lookup ("counts" : Str) (FS ++ List.map (fun y : Str × Addr × List D => (y.1, D.flst y.2.2)) [("counts", qc, ls), ("steps", q, stepsL c N)]) = some (.flst ls) := fun ls => by rw [hct]; rfl
    have hcut : PD.cutD (stepsL c N) none (some (-1)) = (List.range N).map fun j => D.dct (stepK c j) := by
      unfold PD.cutD
      rw [stepsL_len]
      show ((stepsL c N).drop 0).take ((-1 + ((N + 1 : Nat) : Int)).toNat - 0) = _
      rw [List.drop_zero, show (-1 + ((N + 1 : Nat) : Int)).toNat - 0 = N by omega]
      unfold stepsL
      rw [List.take_append_of_le_length (by simp), List.take_of_length_le (by simp)]
    refine hs_forGV (K' := fun _ => False) (ds := (List.range N).map fun j => D.dct (stepK c j)) B3 (fun j r' => ∃ a b d l, plS a = true ∧ plS b = true ∧ plS d = true ∧ plS l = true ∧ r' = .selfS x dx C FS [("counts", qc, countsL c j), ("steps", q, stepsL c N)] :: .val (calD c) :: a :: b :: d :: l :: List.replicate 5 Slot.none) rfl PassesOwn.never T.reversed
      (by rw [← hcut]; exact ed_sliceF (ed_fld (dv 0) TC.cls TC.steps (hl1 _)) eo_none (eo_some (ed_neg ed_int))) (by
        rw [isPls_rev, List.all_map]
        exact List.all_eq_true.mpr fun j _ => stepK_pl c j) (pg_name (i := 3) scInit.nd rfl (.inl rfl)) ⟨a, b, d, .none, pa, pb, pd, rfl, rfl⟩ (fun d => [(3, d)]) (fun d _ => gd_name) ?_ (fun v H h => by obtain ⟨_, h, _⟩ := h; exact h.elim) ?_
    · rintro L j z r' BL hz ⟨a, b, d, l, pa, pb, pd, pl, rfl⟩
      have hj : j < N := by
        have h1 := (List.getElem?_eq_some_iff.mp hz).1
        simpa using h1
      have ez : z = .dct (stepK c (N - 1 - j)) := by
        rw [List.getElem?_reverse (by simpa using hj)] at hz
        simp only [List.length_map, List.length_range] at hz
        rw [List.getElem?_map, List.getElem?_range (by omega)] at hz
        simpa using hz.symm
      subst ez
      have BL : Base (cxOf CX0 P w K mg base NInit "Table.__init__" (defScope sInit) f cdv A outer s H E).nox L x dx [((("counts" : Str)), qc, countsL c j), ((("steps" : Str)), q, stepsL c N)] := by
        have h := BL.setQ qc (countsL c j)
        rw [hsetC] at h
        exact h
      have hls : ([((("counts" : Str)), qc, countsL c j), ((("steps" : Str)), q, stepsL c N)] : List (Str × Addr × List D)).all (fun x => isPls x.2.2) = true := by simp [stepsL_pl, countsL_pl]
      refine hs_setD 5 (d := .dct (cntK c j)) (ed_ixF (ed_fld (dv 0) TC.cls TC.counts (hl2 _)) (ed_neg ed_int) (countsL_last c j)) ?_ scInit.nd
      change Hs _ _ (At _ _ _ (.selfS x dx C FS [("counts", qc, countsL c j), ("steps", q, stepsL c N)] :: .val (calD c) :: a :: .val (.dct (stepK c (N - 1 - j))) :: d :: .val (.dct (cntK c j)) :: List.replicate 5 Slot.none)) _
      have hpr : (Slot.val (calD c) :: a :: .val (.dct (stepK c (N - 1 - j))) :: d :: .val (.dct (cntK c j)) :: List.replicate 5 Slot.none).all plS = true := by
        show (isPl (calD c) && (plS a && (isPl (.dct (stepK c (N - 1 - j))) && (plS d && (isPl (.dct (cntK c j)) && true))))) = true
        rw [hcal, pa, pd, stepK_pl, cntK_pl]; rfl
      have eI : (stepK c (N - 1 - j)).map itemD = (sts c (N - 1 - j)).map fun st => D.tup [kd (kSt st), .lst ((followers c st (((N - 1 - j : Nat) : Int) + 1)).map stD)] := by unfold stepK dctS; rw [List.map_map]; rfl
      have eC : (foldD (fun st : State => st.map kp) (fun st => D.int (((followers c st (((N - 1 - j : Nat) : Int) + 1)).map (cnt c j)).sum)) [] (sts c (N - 1 - j))) = cntK c (j + 1) := by
        rw [foldD_sts (sts_nodup c _)]
        unfold cntK
        rw [hN, show N - (j + 1) = N - 1 - j by omega]
        congr 1
        funext st
        show D.int _ = D.int (((followers c st (nDays c - (j : Nat))).map (cnt c j)).sum)
        rw [show nDays c - (j : Nat) = ((N - 1 - j : Nat) : Int) + 1 by rw [hn]; omega]
      refine hs_fapp (K := fun z => z = .dct (cntK c (j + 1))) (q := qc) (ed_newD (ef_dn (sts c (N - 1 - j)) (fun st => D.tup [kd (kSt st), .lst ((followers c st (((N - 1 - j : Nat) : Int) + 1)).map stD)]) (fun st => [(8, kd (kSt st)), (10, .lst ((followers c st (((N - 1 - j : Nat) : Int) + 1)).map stD))]) (fun st => st.map kp)
          (fun st => .int (((followers c st (((N - 1 - j : Nat) : Int) + 1)).map (cnt c j)).sum)) hu rfl scInit.nd (by rw [← eI]; exact ei_itemsN (dv 3)) (blkOk_by (own := [("state", 8), ("found", 10)]) (by rfl))
          (fun s H C cl fp => pg_tup (n := 2) rfl (pgs_cons (pg_name (i := 8) scInit.nd rfl (.inl rfl)) (pgs_cons (pg_name (i := 10) scInit.nd rfl (.inl rfl)) pgs_nil))) (fun st _ => gd_tup (gd_cons gd_name (gd_cons gd_name gd_nil))) (fun st _ q hq => by simp at hq; rcases hq with e | e <;> subst e <;> simp)
          (fun st _ s H C cl fp => dv 8)
          (fun st hst' s' H' C' cl fp => ed_callBN (Ka := fun ds => ds = [.lst (((followers c st (((N - 1 - j : Nat) : Int) + 1)).map (cnt c j)).map D.int)]) (cr_sum rfl) (fun ds e => by rw [e]; exact c1_sum) T.sum boot_sum (ea_consN (K := fun d => d = .lst (((followers c st (((N - 1 - j : Nat) : Int) + 1)).map (cnt c j)).map D.int)) (Kr := fun ds => ds = [])
            (ed_new (ef_lc (followers c st (((N - 1 - j : Nat) : Int) + 1)) stD (fun t => [(9, stD t)]) (fun _ => true) (fun t => .int (cnt c j t)) rfl scInit.nd (ei_list (dv 10)) (blkOk_by (own := [("later", 9)]) (by rfl))
              (fun s H C cl fp => pg_name (i := 9) scInit.nd rfl (.inl rfl)) (fun t _ => gd_name) (fun t _ q hq => by simp at hq; subst hq; simp) (fun t _ s H C cl fp => td_tests)
              (fun t ht _ s2 H2 C2 cl2 fp2 => ed_dget hu (dv 5) (ed_is (dv 9) (kd_kSt t).symm) (valN_dctS (by
                have hm := mem_sts hst' ht
                rw [show N - 1 - j + 1 = c.length - j by omega] at hm
                exact hm)) (depth_kSt t)) (by have := hfl _ (show N - 1 - j < N by omega) st hst'; rw [sizeLine_eq]; omega)) fun ds e => by
                rw [e, List.filter_eq_self.mpr fun _ _ => rfl, List.map_map]; rfl) ea_nil (fun d ds e1 e2 => by rw [e1, e2])))
          (hstl _ (by omega)) (fun st _ => depth_kSt st)) fun kvs e => by rw [e, eC]) (ov 0) TC.cls TC.counts BL List.mem_cons_self hplF hls hpr (by rw [countsL_len, sizeLine_eq]; omega) (fun z e => by rw [e]; exact cntK_pl c (j + 1)) fun z e => ?_
      subst e
      rw [hsetC, countsL_next]
      exact hs_nil fun σ H h => ⟨_, ⟨a, .val (.dct (stepK c (N - 1 - j))), d, .val (.dct (cntK c j)), pa, stepK_pl c _, pd, cntK_pl c j, rfl⟩, h⟩
    · rintro r' ⟨a, b, d, l, pa, pb, pd, pl, rfl⟩
      rw [List.length_map, List.length_range]
      have B4 : Base (cxOf CX0 P w K mg base NInit "Table.__init__" (defScope sInit) f cdv A outer s H E).nox H1 x dx [((("counts" : Str)), qc, countsL c N), ((("steps" : Str)), q, stepsL c N)] := by
        have h := B3.setQ qc (countsL c N)
        rw [hsetC] at h
        exact h
      have hls : ([((("counts" : Str)), qc, countsL c N), ((("steps" : Str)), q, stepsL c N)] : List (Str × Addr × List D)).all (fun x => isPls x.2.2) = true := by simp [stepsL_pl, countsL_pl]
      have hpr : (Slot.val (calD c) :: a :: b :: d :: l :: List.replicate 5 Slot.none).all plS = true := by
        show (isPl (calD c) && (plS a && (plS b && (plS d && (plS l && true))))) = true
        rw [hcal, pa, pb, pd, pl]; rfl
      refine hs_frev (q := qc) (ov 0) TC.cls TC.counts B4 List.mem_cons_self hplF hls hpr ?_
      rw [hsetC]
      exact hs_nil fun σ H h => by
        obtain ⟨own, h⟩ := h
        refine ⟨h.ext, ?_⟩
        have r := self_rep (h.sl 0 _ rfl)
        exact Rep.car Car.back _ _ r
theorem ok_init (T : Txt mg) (TC : TabC K C) (c1 : MCal P w K mg base C 1 "low_days" ["self", "day"] (spLow ⟨P, w⟩ C)) (c2 : MCal P w K mg base C 2 "followers" ["self", "state", "day"] (spFollowers ⟨P, w⟩ C)) (F : Fun K "__init__" "Table.__init__" sInit f fd) :
    FnOk P w K mg base CX0 3 f fd ["self", "calendar"] (spInit ⟨P, w⟩ C) := by
  refine fn_init F scInit fun cdv A outer s H E W H1 x dx c hr tok B => ?_
  have ok := tok.ok
  have hl := ok.len
  have hn : nDays c = (c.length : Int) := rfl
  have hcal : isPl (calD c) = true := by
    show isPls (c.map dayD) = true
    rw [isPls_rev, List.all_map]
    exact List.all_eq_true.mpr fun p _ => dayD_pl p
  have hsz : c.length < sizeLine := by rw [sizeLine_eq]; omega
  have gcal : ∀ p ∈ c, GD (⟨P, w⟩ : MW) (gTup K 2 (gCons (gName 6) (gCons (gName 7) gNil))) (dayD p) [(6, .int p.1), (7, optD p.2)] := fun p _ => gd_tup (gd_cons gd_name (gd_cons gd_name gd_nil))
  -- self.owned
  refine hs_fset (K := fun d => d = intsD (owned c)) (ed_new (ef_lc c dayD (fun p => [(6, .int p.1), (7, optD p.2)]) (fun _ => true) (fun p => .int p.1) rfl scInit.nd (ei_list (dv 1)) (blkOk_by (own := [("owned", 6), ("back", 7)]) (by rfl))
      (fun s H C cl fp => pg_tup (n := 2) rfl (pgs_cons (pg_name (i := 6) scInit.nd rfl (.inl rfl)) (pgs_cons (pg_name (i := 7) scInit.nd rfl (.inl rfl)) pgs_nil))) gcal (fun p _ q hq => by simp at hq; rcases hq with e | e <;> subst e <;> simp)
      (fun p _ s H C cl fp => td_tests) (fun p _ _ s H C cl fp => dv 6) hsz) fun ds e => by
        rw [e, List.filter_eq_self.mpr fun _ _ => rfl]
        show D.lst _ = D.lst ((c.map (·.1)).map D.int)
        rw [List.map_map]; rfl) (ov 0) TC.cls TC.owned (by decide) B rfl rfl (by simp [plS, hcal, List.replicate]) (fun _ h => nomatch h) (fun _ h => nomatch h) (Nat.le_of_ble_eq_true rfl) (fun d e => by rw [e]; exact ints_pl _) fun d e => ?_
  subst e
  -- self.days
  refine hs_fset (K := fun d => d = .int (nDays c)) (ed_is (ed_lenL T.len (ea_cons (dv 1) ea_nil)) (by rw [List.length_map]; rfl)) (ov 0) TC.cls TC.days (by decide) B (by simp [plF, ints_pl, isPl]) rfl (by simp [plS, hcal, List.replicate]) (fun x h => by simp at h; subst h; show ("owned" : Str) ≠ "days"; decide) (fun _ h => nomatch h) (Nat.le_of_ble_eq_true rfl) (fun d e => by rw [e]; rfl) fun d e => ?_
  subst e
  -- self.backs
  refine hs_fset (K := fun d => d = intsD (backs c)) (ed_new (ef_lc c dayD (fun p => [(6, .int p.1), (7, optD p.2)]) (fun _ => true) (fun p => .int (back1 (nDays c) p.2)) rfl scInit.nd (ei_list (dv 1)) (blkOk_by (own := [("owned", 6), ("back", 7)]) (by rfl))
      (fun s H C cl fp => pg_tup (n := 2) rfl (pgs_cons (pg_name (i := 6) scInit.nd rfl (.inl rfl)) (pgs_cons (pg_name (i := 7) scInit.nd rfl (.inl rfl)) pgs_nil))) gcal (fun p _ q hq => by simp at hq; rcases hq with e | e <;> subst e <;> simp)
      (fun p _ s H C cl fp => td_tests) (fun p _ _ s H C cl fp => by
        obtain ⟨o, b⟩ := p
        cases b with
        | none => exact ed_if (k := true) (td_isN' (da := .non) (dv 7)) (fun _ => ed_add (ed_fld (dv 0) TC.cls TC.days rfl) ed_int) (fun h => nomatch h)
        | some b => exact ed_if (k := false) (td_isN' (da := .int b) (dv 7)) (fun h => nomatch h) (fun _ => ed_callB (call_min2 rfl) (c1_min2 (i := b) (j := nDays c + 1)) T.min boot_min (ea_cons (dv 7) (ea_cons (ed_add (ed_fld (dv 0) TC.cls TC.days rfl) ed_int) ea_nil)))) hsz) fun ds e => by
        rw [e, List.filter_eq_self.mpr fun _ _ => rfl]
        show D.lst _ = D.lst ((c.map _).map D.int)
        rw [List.map_map]; rfl) (ov 0) TC.cls TC.backs (by decide) B (by simp [plF, ints_pl, isPl]) rfl (by simp [plS, hcal, List.replicate]) (fun x h => by
          simp at h
          rcases h with e | e <;> subst e
          · show ("days" : Str) ≠ "backs"; decide
          · show ("owned" : Str) ≠ "backs"; decide) (fun _ h => nomatch h) (Nat.le_of_ble_eq_true rfl) (fun d e => by rw [e]; exact ints_pl _) fun d e => ?_
  subst e
  -- self.lows
  have hlowpl : isPl (.lst ((lows c).map intsD)) = true := by
    show isPls _ = true
    rw [isPls_rev, List.all_map]
    exact List.all_eq_true.mpr fun l _ => ints_pl l
  refine hs_fset (K := fun d => d = .lst ((lows c).map intsD)) (ed_new (ef_lc (upTo 1 c.length) D.int (fun i => [(2, .int i)]) (fun _ => true) (fun i => intsD (lowDays (owned c) (nDays c) i)) rfl scInit.nd
      (by
        rw [upTo_enc, show c.length = (nDays c + 1 - 1).toNat by omega]
        exact ei_range2 (l := 1) (n := nDays c + 1) T.range (ea_cons ed_int (ea_cons (ed_add (ed_fld (dv 0) TC.cls TC.days rfl) ed_int) ea_nil)) (by omega))
      (blkOk_by (own := [("day", 2)]) (by rfl)) (fun s H C cl fp => pg_name (i := 2) scInit.nd rfl (.inl rfl)) (fun i _ => gd_name) (fun i _ q hq => by simp at hq; subst hq; simp) (fun i _ s H C cl fp => td_tests)
      (fun i hi _ s H C' cl fp => ed_meth c1 (owned c, nDays c, i) TC.cls (hr.mono (by decide)) (ed_subF (fs' := [("owned", intsD (owned c)), ("days", .int (nDays c))]) (dv 0) ⟨rfl, rfl, trivial⟩) (by decide) (ea_cons (dv 2) ea_nil) rfl (by
        have := upTo_mem hi
        refine ⟨?_, ?_, ?_, ?_⟩
        · show ((owned c).length : Int) = nDays c
          unfold owned; rw [List.length_map]; rfl
        · show (owned c).length ≤ 101
          unfold owned; rw [List.length_map]; exact hl
        · show 1 ≤ i; omega
        · show i ≤ nDays c; omega) fun _ h => h) (by unfold upTo; rw [List.length_map, List.length_range]; exact hsz)) fun ds e => by
        rw [e, List.filter_eq_self.mpr fun _ _ => rfl]
        unfold lows
        rw [List.map_map]; rfl) (ov 0) TC.cls TC.lows (by decide) B (by simp [plF, ints_pl, isPl]) rfl (by simp [plS, hcal, List.replicate]) (fun x h => by
          simp at h
          rcases h with e | e | e <;> subst e
          · show ("backs" : Str) ≠ "lows"; decide
          · show ("days" : Str) ≠ "lows"; decide
          · show ("owned" : Str) ≠ "lows"; decide) (fun _ h => nomatch h) (Nat.le_of_ble_eq_true rfl) (fun d e => by rw [e]; exact hlowpl) fun d e => ?_
  subst e
  exact @init_rest P w K mg base f C cdv A outer s H E W H1 x dx c (FS0 c) T TC c2 tok (hr.mono (by decide)) (fs0_facts c) B
end
end BR

set_option Elab.async false
set_option linter.all false
set_option maxRecDepth 100000
set_option maxHeartbeats 1000000
/-! W6: making a table; state_of, count_after; count_rows. -/
namespace BR
open PySem L2 PySem.Spec PyProof.Rows PD
structure TMk (P : Program) (w : World) (K : PySem.W.Frag) (mg : Str → Option Value) (base : Heap) (C : Addr) : Prop where
  ex : ∃ f fd, FnOk P w K mg base CX0 3 f fd ["self", "calendar"] (spInit ⟨P, w⟩ C) ∧ Mk K C f ∧ mg "Table" = some (.ref C) ∧ Binds K fd ["self", "calendar"] []
section
variable {X : Cx} {r : List (Option D)} {e : Expr} {p pos : Pos} {C : Addr} {c : Cal}
theorem ed_table (T : TMk X.prog X.w X.K X.mg X.base C) (hr : Room 4 X.A) (ha : PA X [e] (tAD (pw X) r [calD c])) (ok : TabOk c) (hg : Gl X "Table" := by rfl) (he : starEach [e] X.env = (false, eval e X.env) :: starEach [] X.env := by rfl) (hpl : (backTo pos (starEach [] X.env)).any (·.1) = false := by rfl) :
    PE X (.Call (.Name "Table" p) [e] [] pos) (tD (pw X) r (tabD C c)) := by
  obtain ⟨f, fd, F, mk, hm, hb⟩ := T.ex
  exact (pe_make mk F hr hg hm hb .nil pass0 ha (by decide) he hpl).wk fun σ H Q ⟨W, hs, wok, q⟩ => ⟨W, hs, wok, fun vs H1 ds ka e1 rs x dx hx hdx hne => by
    subst ka
    obtain ⟨v, ev, rv⟩ := rs.one_of
    subst ev
    exact ⟨W, H1, x, dx, v, c, rfl, rfl, hx, hdx, hne, wok.ext e1, rv, ok, fun H' e2 rt => ⟨rfl, q _ H' _ rfl (e1.trans e2) rt⟩⟩⟩
end
section
variable {P : Program} {w : World} {K : PySem.W.Frag} {mg : Str → Option Value} {base : Heap} {f C : Addr} {fd : FuncData}
abbrev sStateOf : Stmt := tabM 5
abbrev sCountAfter : Stmt := tabM 6
theorem scStateOf : FnScope ["self", "past", "state", "day", "number"] ["self", "past"] (defScope sStateOf) := ⟨rfl, rfl, rfl, by decide +kernel, rfl, by decide +kernel, by decide +kernel⟩
abbrev spStateOf (M : MW) (C : Addr) : Sp := spO M (fun c : Cal => [tabD C c, D.tup []]) (fun _ => True) (fun c d => d = stD [])
theorem ok_stateOf (T : Txt mg) (TC : TabC K C) (F : Fun K "state_of" "Table.state_of" sStateOf f fd) : FnOk P w K mg base CX0 1 f fd ["self", "past"] (spStateOf ⟨P, w⟩ C) := by
  refine fn_D F scStateOf (fun _ => rfl) (by decide) fun cdv A outer s H E W H0 c hr hp => ?_
  refine hs_setD 2 (ed_ktp (ds := []) ea_nil) ?_ scStateOf.nd
  refine hs_for (K' := fun d => d = stD []) (fun j r => r = [.val (tabD C c), .val (.tup []), .val (stD []), .none, .none])
    rfl PassesOwn.never (ei_en2 (b := true) (ds := []) (k := 1) T.enumerate (ea_cons (dv 1) (ea_cons ed_int ea_nil)) rfl (by decide)) (pg_tup (n := 2) rfl (pgs_cons (pg_name (i := 3) scStateOf.nd rfl (.inl rfl)) (pgs_cons (pg_name (i := 4) scStateOf.nd rfl (.inl rfl)) pgs_nil))) rfl (fun d => [(3, d), (4, d)]) (fun d h => absurd h (by simp [enumD])) ?_ (fun _ _ h => h) ?_
  · rintro H1 j d r' hd _
    simp [enumD] at hd
  · rintro r' rfl
    exact hs_retD (dv 2) rfl
theorem scCountAfter : FnScope ["self", "past"] ["self", "past"] (defScope sCountAfter) := ⟨rfl, rfl, rfl, by decide +kernel, rfl, by decide +kernel, by decide +kernel⟩
abbrev spCountAfter (M : MW) (C : Addr) : Sp := spO M (fun c : Cal => [tabD C c, D.tup []]) (fun _ => True) (fun c d => d = .int (cnt c c.length []))
theorem ok_countAfter (T : Txt mg) (TC : TabC K C) (c1 : MCal P w K mg base C 1 "state_of" ["self", "past"] (spStateOf ⟨P, w⟩ C)) (F : Fun K "count_after" "Table.count_after" sCountAfter f fd) : FnOk P w K mg base CX0 2 f fd ["self", "past"] (spCountAfter ⟨P, w⟩ C) := by
  refine fn_D F scCountAfter (fun _ => rfl) (by decide) fun cdv A outer s H E W H0 c hr hp => ?_
  have hu : (cxOf CX0 P w K mg base ["self", "past"] "Table.count_after" (defScope sCountAfter) f cdv A outer s H E).nox.A.units + 64 < cLine := hr.units
  have h0 : atI (countsL c c.length).reverse 0 = some (.dct (cntK c c.length)) := by
    unfold atI ixN
    rw [List.length_reverse, countsL_len, if_pos (by omega), if_pos (by omega)]
    show (countsL c c.length).reverse[0]? = _
    unfold countsL
    rw [List.range_succ, List.map_append, List.reverse_append]
    rfl
  have h1 : valN (cntK c c.length) (kSt []) = some (.int (cnt c c.length [])) := by
    unfold cntK
    rw [Nat.sub_self]
    exact valN_dctS (v := fun s => D.int (cnt c c.length s)) (by simp [sts])
  refine hs_retD (ed_dget (ks := []) hu (ed_ixF (i := 0) (ed_fld (dv 0) TC.cls TC.counts rfl) (ed_lenT (ds := []) T.len (ea_cons (dv 1) ea_nil)) h0) (ed_meth c1 c TC.cls hr (dv 0) (by decide) (ea_cons (dv 1) ea_nil) rfl trivial fun _ h => h) h1 (depth_kSt [])) rfl
end
end BR

set_option Elab.async false
set_option linter.all false
set_option maxRecDepth 100000
set_option maxHeartbeats 1000000
/-! W7: require_calendar, count_rows, prices, branches. -/
namespace BR
open PySem L2 PySem.Spec PyProof.Rows PD
structure CalIn (c : Cal) : Prop where
  len : c.length ≤ 100
  day : ∀ i p, c[i]? = some p → DayOk ((i : Nat) + 1) p
theorem CalIn.ok {c : Cal} (h : CalIn c) : CalOk c := ⟨by have := h.len; omega, h.day⟩
theorem enumD_at {α : Type} {k : Int} {xs : List α} {g : α → D} {j : Nat} {d : D} (h : (enumD k (xs.map g))[j]? = some d) : ∃ x, xs[j]? = some x ∧ d = .tup [.int (k + (j : Nat)), g x] := by
  unfold enumD at h
  rw [List.getElem?_mapIdx, List.getElem?_map] at h
  cases q : xs[j]? with
  | none => rw [q] at h; cases h
  | some x => rw [q] at h; exact ⟨x, rfl, by simpa using h.symm⟩
abbrev Price := Int × Int × Int
abbrev priceD (p : Price) : D := .tup [.int p.1, .int p.2.1, .int p.2.2]
abbrev pricesD (ps : List Price) : D := .lst (ps.map priceD)
def PrOk (ps : List Price) : Prop := ∀ p ∈ ps, 0 ≤ p.1 ∧ 0 ≤ p.2.1 ∧ 0 ≤ p.2.2
abbrev sCountRows : Stmt := top 21
abbrev sIsPrice : Stmt := top 25
abbrev sReqPrices : Stmt := top 26
abbrev sPaid : Stmt := top 27
abbrev sBranches : Stmt := top 28
section
variable {P : Program} {w : World} {K : PySem.W.Frag} {mg : Str → Option Value} {base : Heap} {f C : Addr} {fd : FuncData}
abbrev NReqCal : List Str := ["calendar", "index", "entry"]
theorem scReqCal : FnScope NReqCal ["calendar"] (defScope sReqCal) := ⟨rfl, rfl, rfl, by decide +kernel, rfl, by decide +kernel, by decide +kernel⟩
abbrev spReqCal (M : MW) : Sp := spO M (fun c : Cal => [calD c]) CalIn (fun c d => d = .non)
theorem ok_reqCal (T : Txt mg) (c2 : PD.Cal P w K mg base 3 "is_day" ["value", "day"] (spIsDay ⟨P, w⟩)) (F : Fun K "require_calendar" "require_calendar" sReqCal f fd) : FnOk P w K mg base CX0 4 f fd ["calendar"] (spReqCal ⟨P, w⟩) := by
  refine fn_D F scReqCal (fun _ => rfl) (by decide) fun cdv A outer s H E W H0 c hr hc => ?_
  obtain ⟨t, hmd⟩ := T.maxDays
  have hl := hc.len
  refine hs_ifF (tt_is (PW.pt (tw_or (td_not (k := true) (td_val (ed_isi2 (t := "list") (T := "list") (T2 := "tuple") (k := true) (k2 := false) T.isinstance (dv 0) T.list boot_list T.tuple boot_tuple rfl (by decide +kernel) (by decide +kernel)))) fun _ =>
      tw_or1 (td_gt (ed_lenL T.len (ea_cons (dv 0) ea_nil)) (ed_globI hmd)))) (l := false) (by rw [List.length_map]; show (false || decide (100 < (c.length : Int))) = false; simp; omega)) ?_
  refine hs_for (K' := fun d => d = .non) (fun j r => ∃ x y, r = [.val (calD c), x, y]) rfl PassesOwn.never (ei_en (b := false) (ds := c.map dayD) T.enumerate (ea_cons (dv 0) ea_nil) rfl)
    (pg_tup (n := 2) rfl (pgs_cons (pg_name (i := 1) scReqCal.nd rfl (.inl rfl)) (pgs_cons (pg_name (i := 2) scReqCal.nd rfl (.inl rfl)) pgs_nil))) ⟨_, _, rfl⟩ (fun d => match d with | .tup [a, b] => [(1, a), (2, b)] | _ => []) (fun d hd => ?_) ?_ (fun _ _ h => h) ?_
  · obtain ⟨j, hj⟩ := List.getElem?_of_mem hd
    obtain ⟨p, _, e⟩ := enumD_at hj
    subst e
    exact gd_tup (gd_cons gd_name (gd_cons gd_name gd_nil))
  · rintro H1 j d r' hd ⟨x, y, rfl⟩
    obtain ⟨p, hp, e⟩ := enumD_at hd
    subst e
    refine hs_ifF (td_not (k := true) (td_val (ed_call c2 (p, (j : Nat) + 1) hr (ea_cons (dv 2) (ea_cons (ed_is (ed_add (dv 1) ed_int) (by congr 1; omega)) ea_nil)) (hc.day j p hp) fun _ h => h))) ?_
    exact hs_nil fun σ H h => ⟨_, ⟨_, _, rfl⟩, h⟩
  · rintro r' ⟨x, y, rfl⟩
    exact hs_nil fun σ H ⟨own, h⟩ => ⟨.non, rfl, h.ext, rfl⟩
theorem scCountRows : FnScope ["calendar"] ["calendar"] (defScope sCountRows) := ⟨rfl, rfl, rfl, by decide +kernel, rfl, by decide +kernel, by decide +kernel⟩
abbrev spCountRows (M : MW) : Sp := spO M (fun c : Cal => [calD c]) (fun c => CalIn c ∧ TabOk c) (fun c d => d = .int (cnt c c.length []))
theorem ok_countRows (TC : TabC K C) (c1 : PD.Cal P w K mg base 4 "require_calendar" ["calendar"] (spReqCal ⟨P, w⟩)) (tm : TMk P w K mg base C) (c2 : MCal P w K mg base C 2 "count_after" ["self", "past"] (spCountAfter ⟨P, w⟩ C)) (F : Fun K "count_rows" "count_rows" sCountRows f fd) : FnOk P w K mg base CX0 5 f fd ["calendar"] (spCountRows ⟨P, w⟩) := by
  refine fn_D F scCountRows (fun _ => rfl) (by decide) fun cdv A outer s H E W H0 c hr hc => ?_
  refine hs_drop (K := fun _ => True) (ed_call c1 c hr (ea_cons (dv 0) ea_nil) hc.1 fun _ _ => trivial) ?_
  exact hs_retD (ed_meth c2 c TC.cls (hr.mono (by decide)) (ed_table tm hr (ea_cons (dv 0) ea_nil) hc.2) (by decide) (ea_cons (ed_tup (ds := []) ea_nil) ea_nil) rfl trivial fun _ h => h) rfl
theorem scIsPrice : FnScope ["value", "entry"] ["value"] (defScope sIsPrice) := ⟨rfl, rfl, rfl, by decide +kernel, rfl, by decide +kernel, by decide +kernel⟩
abbrev spIsPrice (M : MW) : Sp := spO M (fun p : Price => [priceD p]) (fun p => 0 ≤ p.1 ∧ 0 ≤ p.2.1 ∧ 0 ≤ p.2.2) (fun _ d => d = .bl true)
theorem ok_isPrice (T : Txt mg) (c1 : PD.Cal P w K mg base 2 "is_at_least" ["value", "low"] (spAtLeast ⟨P, w⟩)) (F : Fun K "is_price" "is_price" sIsPrice f fd) : FnOk P w K mg base CX0 3 f fd ["value"] (spIsPrice ⟨P, w⟩) := by
  refine fn_D F scIsPrice (fun _ => rfl) (by decide) fun cdv A outer s H E W H0 p hr hp => ?_
  obtain ⟨a, b, c⟩ := p
  simp only at hp
  refine hs_retD (ed_and (k := true) (ed_isi (t := "tuple") (k := true) T.isinstance (dv 0) T.tuple boot_tuple rfl (by decide +kernel)) fun _ =>
    ed_and (k := true) (ed_is (ed_eqI (ed_lenT (ds := [.int a, .int b, .int c]) T.len (ea_cons (dv 0) ea_nil)) ed_int) (by rfl)) fun _ =>
    ed_one (ed_callBN (Ka := fun ds => ds = [.lst ([decide (0 ≤ a), decide (0 ≤ b), decide (0 ≤ c)].map D.bl)]) (cr_all rfl) (fun ds e => by rw [e]; exact c1_all) T.all boot_all (ea_consN (K := fun d => d = .lst ([decide (0 ≤ a), decide (0 ≤ b), decide (0 ≤ c)].map D.bl)) (Kr := fun ds => ds = [])
      (ed_new (ef_lc [a, b, c] D.int (fun i => [(1, .int i)]) (fun _ => true) (fun i => .bl (decide (0 ≤ i))) rfl scIsPrice.nd (ei_tup (dv 0)) (blkOk_by (own := [("entry", 1)]) (by rfl))
        (fun s H C cl fp => pg_name (i := 1) scIsPrice.nd rfl (.inl rfl)) (fun i _ => gd_name) (fun i _ q hq => by simp at hq; subst hq; simp) (fun i _ s H C cl fp => td_tests)
        (fun i _ _ s H C' cl fp => ed_call c1 (i, 0) hr (ea_cons (dv 1) (ea_cons ed_int ea_nil)) trivial fun _ h => h) (Nat.le_of_ble_eq_true rfl)) fun ds e => by rw [e]; rfl) ea_nil (fun d ds e1 e2 => by rw [e1, e2])))) (by simp [hp])
theorem scReqPrices : FnScope ["calendar", "prices", "index", "entry"] ["calendar", "prices"] (defScope sReqPrices) := ⟨rfl, rfl, rfl, by decide +kernel, rfl, by decide +kernel, by decide +kernel⟩
abbrev spReqPrices (M : MW) : Sp := spO M (fun i : Cal × List Price => [calD i.1, pricesD i.2]) (fun i => i.1.length = i.2.length ∧ PrOk i.2) (fun _ d => d = .non)
theorem ok_reqPrices (T : Txt mg) (c2 : PD.Cal P w K mg base 3 "is_price" ["value"] (spIsPrice ⟨P, w⟩)) (F : Fun K "require_prices" "require_prices" sReqPrices f fd) : FnOk P w K mg base CX0 4 f fd ["calendar", "prices"] (spReqPrices ⟨P, w⟩) := by
  refine fn_D F scReqPrices (fun _ => rfl) (by decide) fun cdv A outer s H E W H0 i hr hp => ?_
  obtain ⟨c, ps⟩ := i
  obtain ⟨hl, hp⟩ := hp
  simp only at hl hp
  refine hs_ifF (tt_is (PW.pt (tw_or (td_not (k := true) (td_val (ed_isi2 (t := "list") (T := "list") (T2 := "tuple") (k := true) (k2 := false) T.isinstance (dv 1) T.list boot_list T.tuple boot_tuple rfl (by decide +kernel) (by decide +kernel)))) fun _ =>
      tw_or1 (td_neI (ed_lenL T.len (ea_cons (dv 1) ea_nil)) (ed_lenL T.len (ea_cons (dv 0) ea_nil))))) (l := false) (by rw [List.length_map, List.length_map, hl]; simp)) ?_
  refine hs_for (K' := fun d => d = .non) (fun j r => ∃ x y, r = [.val (calD c), .val (pricesD ps), x, y]) rfl PassesOwn.never (ei_en (b := false) (ds := ps.map priceD) T.enumerate (ea_cons (dv 1) ea_nil) rfl)
    (pg_tup (n := 2) rfl (pgs_cons (pg_name (i := 2) scReqPrices.nd rfl (.inl rfl)) (pgs_cons (pg_name (i := 3) scReqPrices.nd rfl (.inl rfl)) pgs_nil))) ⟨_, _, rfl⟩ (fun d => match d with | .tup [a, b] => [(2, a), (3, b)] | _ => []) (fun d hd => ?_) ?_ (fun _ _ h => h) ?_
  · obtain ⟨j, hj⟩ := List.getElem?_of_mem hd
    obtain ⟨p, _, e⟩ := enumD_at hj
    subst e
    exact gd_tup (gd_cons gd_name (gd_cons gd_name gd_nil))
  · rintro H1 j d r' hd ⟨x, y, rfl⟩
    obtain ⟨p, hpj, e⟩ := enumD_at hd
    subst e
    refine hs_ifF (td_not (k := true) (td_val (ed_call c2 p hr (ea_cons (dv 3) ea_nil) (hp p (List.mem_of_getElem? hpj)) fun _ h => h))) ?_
    exact hs_nil fun σ H h => ⟨_, ⟨_, _, rfl⟩, h⟩
  · rintro r' ⟨x, y, rfl⟩
    exact hs_nil fun σ H ⟨own, h⟩ => ⟨.non, rfl, h.ext, rfl⟩
def paidI (p : Price) (used : Int) : Int := p.1 * (if 0 < used then 1 else 0) + p.2.1 * used
theorem scPaid : FnScope ["price", "used"] ["price", "used"] (defScope sPaid) := ⟨rfl, rfl, rfl, by decide +kernel, rfl, by decide +kernel, by decide +kernel⟩
abbrev spPaid (M : MW) : Sp := spO M (fun i : Price × Int => [priceD i.1, .int i.2]) (fun i => 0 ≤ i.2 ∧ i.2 ≤ 1000) (fun i d => d = .int (paidI i.1 i.2))
theorem ok_paid (T : Txt mg) (F : Fun K "paid" "paid" sPaid f fd) : FnOk P w K mg base CX0 1 f fd ["price", "used"] (spPaid ⟨P, w⟩) := by
  refine fn_D F scPaid (fun _ => rfl) (by decide) fun cdv A outer s H E W H0 i hr hp => ?_
  obtain ⟨p, u⟩ := i
  simp only at hp
  have hi : (if decide (0 < u) = true then (1 : Int) else 0) = if 0 < u then 1 else 0 := by simp
  refine hs_retD (ed_add (ed_mul (ed_ixT (dv 0) ed_int) (ed_callTy (T := "int") call_int1 c1_intB T.int boot_int (ea_cons (ed_gt (dv 1) ed_int) ea_nil)) (by rw [hi]; exact .inr (by split <;> decide))) (ed_mul (ed_ixT (dv 0) ed_int) (dv 1) (.inr (by omega)))) ?_
  rw [hi]; rfl
end
end BR

set_option Elab.async false
set_option linter.all false
set_option maxRecDepth 100000
set_option maxHeartbeats 1000000
/-! W8: branches, entries_of. -/
namespace BR
open PySem L2 PySem.Spec PyProof.Rows PD
abbrev Ent := Int × State × Int
def kEnt (e : Ent) : NestedKey := .tup [.num e.1, kSt e.2.1, .num e.2.2]
abbrev entK (e : Ent) : List NestedKey := [.num e.1, kSt e.2.1, .num e.2.2]
abbrev entD (e : Ent) : D := .ktp [.int e.1, stD e.2.1, .int e.2.2]
theorem kd_kEnt (e : Ent) : kd (kEnt e) = entD e := by
  show D.ktp [.int e.1, kd (kSt e.2.1), .int e.2.2] = _
  rw [kd_kSt]
theorem kEnt_inj {e e' : Ent} (h : kEnt e = kEnt e') : e = e' := by
  unfold kEnt at h
  injection h with h
  injection h with h1 h
  injection h with h2 h
  injection h with h3 _
  injection h1 with h1
  injection h3 with h3
  exact Prod.ext h1 (Prod.ext (kSt_inj h2) h3)
theorem depth_kEnt (e : Ent) : (kEnt e).depth ≤ 8 := by
  have h := depth_kSt e.2.1
  have : (kSt e.2.1).depth ≤ 3 := by
    have : ∀ l : List (Int × Int), NestedKey.depthAll (l.map kp) ≤ 1 := fun l => by
      induction l with
      | nil => simp [NestedKey.depthAll]
      | cons q l ih =>
        rw [List.map_cons, NestedKey.depthAll]
        have : (kp q).depth = 1 := by simp [kp, NestedKey.depth, NestedKey.depthAll]
        omega
    have := this e.2.1
    show NestedKey.depthAll _ + 1 ≤ 3
    omega
  show NestedKey.depthAll [.num e.1, kSt e.2.1, .num e.2.2] + 1 ≤ 8
  simp only [NestedKey.depthAll, NestedKey.depth]
  omega
/-- the price before place d -/
def atP (ps : List Price) (d : Int) : Price := ps.getD (d - 1).toNat (0, 0, 0)
theorem atP_at {ps : List Price} {d i : Int} (h1 : 1 ≤ d) (h2 : d ≤ ps.length) (e : i = d - 1) : atI (ps.map priceD) i = some (priceD (atP ps d)) := by
  subst e
  unfold atI ixN
  rw [List.length_map, if_pos (by omega), if_pos (by omega)]
  show (ps.map priceD)[(d - 1).toNat]? = _
  have hl : (d - 1).toNat < ps.length := by omega
  unfold atP
  rw [List.getElem?_map, List.getElem?_eq_getElem hl, List.getD_eq_getElem?_getD, List.getElem?_eq_getElem hl]
  rfl
def branchU (ps : List Price) (fs : List State) (day budget used : Int) : List Ent :=
  ((upTo 0 (used + 1).toNat).map fun number => (day + 1, fs.getD number.toNat [], budget - paidI (atP ps day) used - (atP ps day).2.2 * number)).filter fun e => decide (0 ≤ e.2.2)
def branchesL (c : Cal) (ps : List Price) (day : Int) (st : State) (budget : Int) : List (List Ent) :=
  (upTo 0 (followers c st day).length).map (branchU ps (followers c st day) day budget)
abbrev brD (l : List (List Ent)) : D := .lst (l.map fun s => .lst (s.map entD))
theorem followers_len {c : Cal} (ok : CalOk c) {st : State} (b : StB st) {day : Int} (h1 : 1 ≤ day) (h2 : day ≤ nDays c) : (followers c st day).length ≤ 13 := by
  have := room_bd ok b h1 h2
  unfold followers upTo
  rw [List.length_map, List.length_map, List.length_range]
  omega
theorem at_map {α : Type} {g : α → D} {xs : List α} {i : Int} {z : α} (h1 : 0 ≤ i) (h2 : i < xs.length) : atI (xs.map g) i = some (g (xs.getD i.toNat z)) := by
  unfold atI ixN
  rw [List.length_map, if_pos h1, if_pos h2]
  show (xs.map g)[i.toNat]? = _
  have hl : i.toNat < xs.length := by omega
  rw [List.getElem?_map, List.getElem?_eq_getElem hl, List.getD_eq_getElem?_getD, List.getElem?_eq_getElem hl]
  rfl
section
variable {P : Program} {w : World} {K : PySem.W.Frag} {mg : Str → Option Value} {base : Heap} {f C : Addr} {fd : FuncData}
abbrev NBr : List Str := ["table", "prices", "day", "state", "budget", "price", "found", "following", "used", "left", "number", "some", "entry"]
theorem scBr : FnScope NBr ["table", "prices", "day", "state", "budget"] (defScope sBranches) := ⟨rfl, rfl, rfl, by decide +kernel, rfl, by decide +kernel, by decide +kernel⟩
abbrev spBr (M : MW) (C : Addr) : Sp := spO M (fun i : Cal × List Price × Int × State × Int => [tabD C i.1, pricesD i.2.1, .int i.2.2.1, stD i.2.2.2.1, .int i.2.2.2.2]) (fun i => CalOk i.1 ∧ i.2.1.length = i.1.length ∧ 1 ≤ i.2.2.1 ∧ i.2.2.1 ≤ nDays i.1 ∧ StB i.2.2.2.1)
  (fun i d => d = brD (branchesL i.1 i.2.1 i.2.2.1 i.2.2.2.1 i.2.2.2.2))
theorem ok_branches (T : Txt mg) (TC : TabC K C) (c1 : MCal P w K mg base C 2 "followers" ["self", "state", "day"] (spFollowers ⟨P, w⟩ C)) (c2 : PD.Cal P w K mg base 1 "paid" ["price", "used"] (spPaid ⟨P, w⟩)) (F : Fun K "branches" "branches" sBranches f fd) :
    FnOk P w K mg base CX0 3 f fd ["table", "prices", "day", "state", "budget"] (spBr ⟨P, w⟩ C) := by
  refine fn_D F scBr (fun _ => rfl) (by decide) fun cdv A outer s H E W H0 i hr hp => ?_
  obtain ⟨c, ps, day, st, budget⟩ := i
  obtain ⟨ok, hl, h1, h2, sb⟩ := hp
  simp only at ok hl h1 h2 sb
  have hn : nDays c = (c.length : Int) := rfl
  refine hs_parTF (K1 := fun d => d = priceD (atP ps day)) (Ks := fun ds => ds = []) 5 6 (ed_ixL (ed_is (dv 1) rfl) (ed_sub (dv 2) ed_int) (atP_at h1 (by omega) rfl)) (ef_lst ea_nil)
    (pg_tup (n := 2) rfl (pgs_cons (pg_name (i := 5) scBr.nd rfl (.inr rfl)) (pgs_cons (pg_name (i := 6) scBr.nd rfl (.inl rfl)) pgs_nil))) (fun d ds e1 e2 => ?_) (Nat.le_of_ble_eq_true rfl)
  subst e1; subst e2
  have hfl := followers_len ok sb h1 h2
  refine hs_setD 7 (d := .lst ((followers c st day).map stD)) (ed_meth c1 (c, st, day) TC.cls (hr.mono (by decide)) (ed_subF (fs' := f0 c) (dv 0) ⟨rfl, rfl, rfl, rfl, trivial⟩) (by decide) (ea_cons (dv 3) (ea_cons (dv 2) ea_nil)) rfl ⟨ok, sb, h1, h2⟩ fun _ h => h) ?_ scBr.nd
  unfold branchesL
  generalize followers c st day = fs at hfl
  generalize hpr : atP ps day = pr at *
  have hb1 : ∀ u, branchU ps fs day budget u = ((upTo 0 (u + 1).toNat).map fun number => (day + 1, fs.getD number.toNat [], budget - paidI pr u - pr.2.2 * number)).filter fun e => decide (0 ≤ e.2.2) := fun u => by unfold branchU; rw [hpr]
  generalize branchU ps fs day budget = BU at hb1
  have hul : ∀ n : Nat, (upTo 0 n).length = n := fun n => by unfold upTo; simp
  refine hs_for (K' := fun d => d = brD ((upTo 0 fs.length).map BU)) (fun j r => ∃ x y z, r = [.val (tabD C c), .val (pricesD ps), .val (.int day), .val (stD st), .val (.int budget), .val (priceD pr), .own (((upTo 0 j).map BU).map fun s => .lst (s.map entD)), .val (.lst (fs.map stD)), x, y, .none, z, .none])
    rfl PassesOwn.never (ei_range1 (n := (fs.length : Int)) T.range (ea_cons (ed_is (ed_lenL T.len (ea_cons (dv 7) ea_nil)) (by rw [List.length_map])) ea_nil) (by omega) (by omega)) (pg_name (i := 8) scBr.nd rfl (.inl rfl)) ⟨_, _, _, rfl⟩ (fun d => [(8, d)]) (fun d _ => gd_name) ?_ (fun _ _ h => h) ?_
  · rintro H1 j d r' hd ⟨x, y, z, rfl⟩
    obtain ⟨hj, rfl⟩ := range_at hd
    have hj : j < fs.length := by omega
    have e0 : (0 : Int) + (j : Nat) = (j : Nat) := by omega
    rw [e0]
    refine hs_setD 9 (d := .int (budget - paidI pr (j : Nat))) (ed_sub (dv 4) (ed_call c2 (pr, (j : Nat)) (hr.mono (by decide)) (ea_cons (dv 5) (ea_cons (dv 8) ea_nil)) ⟨by show (0 : Int) ≤ (j : Nat); omega, by show ((j : Nat) : Int) ≤ 1000; omega⟩ fun _ h => h)) ?_ scBr.nd
    refine hs_setL 11 (upTo 0 ((j : Nat) + 1 : Int).toNat) D.int (fun i => [(10, .int i)]) (fun _ => true) (fun i => entD (day + 1, fs.getD i.toNat [], budget - paidI pr (j : Nat) - pr.2.2 * i)) rfl scBr.nd
      (by
        rw [upTo_enc]
        exact ei_range1 (n := (j : Nat) + 1) T.range (ea_cons (ed_add (dv 8) ed_int) ea_nil) (by omega) (by omega)) (blkOk_by (own := [("number", 10)]) (by rfl)) (fun s H C cl fp => pg_name (i := 10) scBr.nd rfl (.inl rfl)) (fun i _ => gd_name) (fun i _ q hq => by simp at hq; subst hq; simp) (fun i _ s H C cl fp => td_tests)
      (fun i hi _ s H C' cl fp => by
        have hi := upTo_mem hi
        exact ed_ktp (ea_cons (ed_add (dv 2) ed_int) (ea_cons (ed_ixL (dv 7) (dv 10) (at_map (by omega) (by omega))) (ea_cons (ed_sub (dv 9) (ed_mul (ed_ixT (dv 5) ed_int) (dv 10) (.inr (by omega)))) ea_nil)))) (by rw [hul, sizeLine_eq]; omega) (Nat.le_of_ble_eq_true rfl) ?_ (sw_true rfl rfl rfl (by decide +kernel))
    rw [List.filter_eq_self.mpr fun _ _ => rfl]
    have e1 : ((upTo 0 ((j : Nat) + 1 : Int).toNat).map fun i => entD (day + 1, fs.getD i.toNat [], budget - paidI pr (j : Nat) - pr.2.2 * i)) = ((upTo 0 ((j : Nat) + 1 : Int).toNat).map fun i => ((day + 1, fs.getD i.toNat [], budget - paidI pr (j : Nat) - pr.2.2 * i) : Ent)).map entD := by rw [List.map_map]; rfl
    rw [e1]
    have hb2 := hb1 (j : Nat)
    have hml : ((upTo 0 ((j : Nat) + 1 : Int).toNat).map fun i => ((day + 1, fs.getD i.toNat [], budget - paidI pr (j : Nat) - pr.2.2 * i) : Ent)).length = ((j : Nat) + 1 : Int).toNat := by rw [List.length_map, hul]
    generalize ((upTo 0 ((j : Nat) + 1 : Int).toNat).map fun i => ((day + 1, fs.getD i.toNat [], budget - paidI pr (j : Nat) - pr.2.2 * i) : Ent)) = es at *
    refine hs_app (K := fun d => d = .lst ((BU (j : Nat)).map entD)) 6 (pe_bm PySem.F.plainAttrs_list PySem.F.slot_list_append PySem.type_list_append (fun pins s σ H x xs v us Q I rx rs q => mt_append pins s σ H x xs v us Q I rx rs q) (ov 6) (pa_cons
      (ed_new (ef_lc es entD (fun e => [(12, entD e)]) (fun e => decide (0 ≤ e.2.2)) entD rfl scBr.nd (ei_list (dv 11)) (blkOk_by (own := [("entry", 12)]) (by rfl)) (fun s H C cl fp => pg_name (i := 12) scBr.nd rfl (.inl rfl)) (fun e _ => gd_name) (fun e _ q hq => by simp at hq; subst hq; simp)
        (fun e _ s H C cl fp => td_test1 (td_ge (ed_ixK (i := 2) (dv 12) ed_int) ed_int)) (fun e _ _ s H C' cl fp => dv 12) (by rw [hml, sizeLine_eq]; omega)) fun ds e => by rw [e, hb2]) pa_nil)) rfl (by rw [List.length_map, List.length_map, hul, sizeLine_eq]; omega) fun d e => hs_nil fun σ H h => ⟨_, ⟨.val (.int (j : Nat)), .val (.int (budget - paidI pr (j : Nat))), .val (.lst (es.map entD)), ?_⟩, h⟩
    subst e
    rw [upTo_succ, List.map_append, List.map_append, e0]
    rfl
  · rintro r' ⟨x, y, z, rfl⟩
    rw [List.length_map, List.length_range, show ((fs.length : Nat) : Int).toNat = fs.length by omega]
    exact hs_frz 6 rfl (hs_retD (dv 6) rfl)
end
end BR

set_option Elab.async false
set_option linter.all false
set_option maxRecDepth 100000
set_option maxHeartbeats 1000000
/-! M2: dicts of data by keys; the entries, level by level. -/
namespace BR
open PySem L2 PySem.Spec PyProof.Rows PD
section
variable {α : Type} [DecidableEq α] {kf : α → NestedKey}
def dctG (kf : α → NestedKey) (ss : List α) (v : α → D) : List (NestedKey × D) := ss.map fun s => (kf s, v s)
def addG (acc : List α) (s : α) : List α := if s ∈ acc then acc else acc ++ [s]
theorem mem_addG1 {acc : List α} {s x : α} : x ∈ addG acc s ↔ x ∈ acc ∨ x = s := by
  unfold addG
  split
  · rename_i h
    exact ⟨.inl, fun z => z.elim id fun e => by rw [e]; exact h⟩
  · rw [List.mem_append, List.mem_singleton]
theorem mem_addG : ∀ {ss acc : List α} {x : α}, x ∈ ss.foldl addG acc ↔ x ∈ acc ∨ x ∈ ss
  | [], acc, x => by simp
  | t :: ss, acc, x => by
    show x ∈ ss.foldl addG (addG acc t) ↔ _
    rw [mem_addG, mem_addG1, List.mem_cons, or_assoc]
theorem nodup_addG1 {acc : List α} {s : α} (h : acc.Nodup) : (addG acc s).Nodup := by
  unfold addG
  split
  · exact h
  · rename_i hn
    rw [List.nodup_append]
    exact ⟨h, by simp, fun a ha b hb e => hn (by rw [← List.mem_singleton.mp hb, ← e]; exact ha)⟩
theorem nodup_addG : ∀ {ss acc : List α}, acc.Nodup → (ss.foldl addG acc).Nodup
  | [], acc, h => h
  | s :: ss, acc, h => nodup_addG (ss := ss) (nodup_addG1 h)
theorem addG_nodup : ∀ {ss acc : List α}, (acc ++ ss).Nodup → ss.foldl addG acc = acc ++ ss
  | [], acc, _ => by simp
  | s :: ss, acc, h => by
    have hs : s ∉ acc := fun m => (List.nodup_append.mp h).2.2 s m s List.mem_cons_self rfl
    have e : addG acc s = acc ++ [s] := by unfold addG; exact if_neg hs
    show ss.foldl addG (addG acc s) = _
    rw [e, addG_nodup (by simpa using h)]
    simp
theorem addG_absorb : ∀ {xs acc L : List α}, (xs.foldl addG acc).foldl addG L = xs.foldl addG (acc.foldl addG L)
  | [], acc, L => rfl
  | x :: xs, acc, L => by
    show (xs.foldl addG (addG acc x)).foldl addG L = xs.foldl addG (addG (acc.foldl addG L) x)
    rw [addG_absorb]
    congr 1
    by_cases h : x ∈ acc
    · have e1 : addG acc x = acc := by unfold addG; exact if_pos h
      have e2 : addG (acc.foldl addG L) x = acc.foldl addG L := by unfold addG; exact if_pos (mem_addG.mpr (.inr h))
      rw [e1, e2]
    · have e1 : addG acc x = acc ++ [x] := by unfold addG; exact if_neg h
      rw [e1, List.foldl_append]; rfl
theorem length_addG : ∀ {ss acc : List α}, acc.length ≤ (ss.foldl addG acc).length
  | [], acc => Nat.le_refl _
  | s :: ss, acc => by
    have h := length_addG (ss := ss) (acc := addG acc s)
    have g : acc.length ≤ (addG acc s).length := by
      unfold addG
      split
      · exact Nat.le_refl _
      · rw [List.length_append]; omega
    exact Nat.le_trans g h
theorem length_addG_le : ∀ {ss acc : List α}, (ss.foldl addG acc).length ≤ acc.length + ss.length
  | [], acc => Nat.le_refl _
  | s :: ss, acc => by
    have h := length_addG_le (ss := ss) (acc := addG acc s)
    have g : (addG acc s).length ≤ acc.length + 1 := by
      unfold addG
      split
      · omega
      · rw [List.length_append]; exact Nat.le_refl _
    show (ss.foldl addG (addG acc s)).length ≤ _
    rw [List.length_cons]
    omega
theorem length_dctG {ss : List α} {v : α → D} : (dctG kf ss v).length = ss.length := by unfold dctG; rw [List.length_map]
theorem dctG_congr {ss : List α} {v w : α → D} (h : ∀ s ∈ ss, v s = w s) : dctG kf ss v = dctG kf ss w := List.map_congr_left fun s hs => by rw [h s hs]
variable (inj : ∀ {a b : α}, kf a = kf b → a = b)
include inj
theorem valN_dctG {v : α → D} : ∀ {ss : List α} {s : α}, s ∈ ss → valN (dctG kf ss v) (kf s) = some (v s)
  | [], s, h => absurd h (by simp)
  | t :: ss, s, h => by
    show valN ((kf t, v t) :: dctG kf ss v) (kf s) = _
    rw [valN_cons]
    by_cases e : t = s
    · rw [e, if_pos rfl]
    · rw [if_neg fun z => e (inj z)]
      rcases List.mem_cons.mp h with z | z
      · exact absurd z.symm e
      · exact valN_dctG z
theorem valN_dctG_none {v : α → D} : ∀ {ss : List α} {s : α}, s ∉ ss → valN (dctG kf ss v) (kf s) = none
  | [], s, h => rfl
  | t :: ss, s, h => by
    show valN ((kf t, v t) :: dctG kf ss v) (kf s) = _
    rw [valN_cons, if_neg fun z => h (by rw [inj z]; exact List.mem_cons_self)]
    exact valN_dctG_none fun z => h (List.mem_cons_of_mem _ z)
theorem putN_dctG {ss : List α} {v : α → D} {s : α} {d : D} : putN (dctG kf ss v) (kf s) d = dctG kf (addG ss s) (fun x => if x = s then d else v x) := by
  unfold putN addG
  by_cases h : s ∈ ss
  · rw [valN_dctG inj h, if_pos h]
    show (dctG kf ss v).map _ = _
    unfold dctG
    rw [List.map_map]
    refine List.map_congr_left fun t _ => ?_
    show (if kf t = kf s then (kf t, d) else (kf t, v t)) = (kf t, if t = s then d else v t)
    by_cases e : t = s
    · rw [if_pos (by rw [e]), if_pos e]
    · rw [if_neg fun z => e (inj z), if_neg e]
  · rw [valN_dctG_none inj h, if_neg h]
    show dctG kf ss v ++ [(kf s, d)] = _
    unfold dctG
    rw [List.map_append]
    congr 1
    · refine List.map_congr_left fun t ht => ?_
      show (kf t, v t) = (kf t, if t = s then d else v t)
      rw [if_neg fun e : t = s => h (by rw [← e]; exact ht)]
    · show _ = [(kf s, if s = s then d else v s)]
      rw [if_pos rfl]
theorem putN_same {ss : List α} {v : α → D} {s : α} : putN (dctG kf ss v) (kf s) (v s) = dctG kf (addG ss s) v := by
  rw [putN_dctG inj]
  refine dctG_congr fun x _ => ?_
  split
  · rename_i e; rw [e]
  · rfl
theorem mergeN_same {v : α → D} : ∀ {ts ss : List α}, mergeN (dctG kf ss v) (dctG kf ts v) = dctG kf (ts.foldl addG ss) v
  | [], ss => rfl
  | t :: ts, ss => by
    show mergeN (putN (dctG kf ss v) (kf t) (v t)) (dctG kf ts v) = _
    rw [putN_same inj, mergeN_same]; rfl
theorem foldD_G {kl : α → List NestedKey} (hk : ∀ a, kf a = .tup (kl a)) {v : α → D} : ∀ {xs ss : List α}, foldD kl v (dctG kf ss v) xs = dctG kf (xs.foldl addG ss) v
  | [], ss => rfl
  | x :: xs, ss => by
    show foldD kl v (putN (dctG kf ss v) (.tup (kl x)) (v x)) xs = _
    rw [← hk, putN_same inj, foldD_G hk]; rfl
end
/-! ### the entries -/
/-- what an entry leads to -/
def outE (c : Cal) (ps : List Price) (e : Ent) : List (List Ent) := branchesL c ps e.1 e.2.1 e.2.2
def lev (c : Cal) (ps : List Price) (b : Int) : Nat → List Ent
  | 0 => [(1, [], b)]
  | d + 1 => ((lev c ps b d).flatMap fun e => (outE c ps e).flatten).foldl addG []
def levs (c : Cal) (ps : List Price) (b : Int) : Nat → List Ent
  | 0 => lev c ps b 0
  | d + 1 => levs c ps b d ++ lev c ps b (d + 1)
/-- the entries that are done before level t -/
def prior (c : Cal) (ps : List Price) (b : Int) : Nat → List Ent
  | 0 => []
  | d + 1 => levs c ps b d
theorem levs_prior {c : Cal} {ps : List Price} {b : Int} (t : Nat) : levs c ps b t = prior c ps b t ++ lev c ps b t := by
  cases t with
  | zero => rfl
  | succ t => rfl
structure EntOk (c : Cal) (ps : List Price) (b : Int) : Prop where
  tab : TabOk c
  len : ps.length = c.length
  b0 : 0 ≤ b
  size : (levs c ps b c.length).length ≤ 5000
theorem out_mem {c : Cal} {ps : List Price} {e e' : Ent} {s : List Ent} (hs : s ∈ outE c ps e) (h : e' ∈ s) : e'.1 = e.1 + 1 ∧ e'.2.1 ∈ followers c e.2.1 e.1 ∧ 0 ≤ e'.2.2 := by
  unfold outE branchesL at hs
  obtain ⟨u, hu, rfl⟩ := List.mem_map.mp hs
  have hu := upTo_mem hu
  unfold branchU at h
  obtain ⟨h1, h2⟩ := List.mem_filter.mp h
  obtain ⟨n, hn, rfl⟩ := List.mem_map.mp h1
  have hn := upTo_mem hn
  refine ⟨rfl, ?_, by simpa using h2⟩
  show (followers c e.2.1 e.1).getD n.toNat [] ∈ _
  have hl : n.toNat < (followers c e.2.1 e.1).length := by omega
  rw [List.getD_eq_getElem?_getD, List.getElem?_eq_getElem hl]
  exact List.getElem_mem hl
theorem lev_mem {c : Cal} {ps : List Price} {b : Int} (hb : 0 ≤ b) : ∀ {t : Nat} {e : Ent}, e ∈ lev c ps b t → e.1 = (t : Nat) + 1 ∧ e.2.1 ∈ sts c t ∧ 0 ≤ e.2.2
  | 0, e, h => by
    rw [List.mem_singleton.mp h]
    exact ⟨rfl, by simp [sts], hb⟩
  | t + 1, e, h => by
    rcases mem_addG.mp h with z | z
    · cases z
    · obtain ⟨e0, h0, h1⟩ := List.mem_flatMap.mp z
      obtain ⟨s, hs, h2⟩ := List.mem_flatten.mp h1
      obtain ⟨i1, i2, i3⟩ := lev_mem hb h0
      obtain ⟨j1, j2, j3⟩ := out_mem hs h2
      refine ⟨by rw [j1, i1]; push_cast; rfl, ?_, j3⟩
      rw [i1] at j2
      exact mem_sts i2 j2
theorem lev_nodup {c : Cal} {ps : List Price} {b : Int} : ∀ t : Nat, (lev c ps b t).Nodup
  | 0 => by simp [lev]
  | t + 1 => nodup_addG List.nodup_nil
theorem levs_mem {c : Cal} {ps : List Price} {b : Int} : ∀ {t : Nat} {e : Ent}, e ∈ levs c ps b t ↔ ∃ d, d ≤ t ∧ e ∈ lev c ps b d
  | 0, e => ⟨fun h => ⟨0, Nat.le_refl _, h⟩, fun ⟨d, h1, h2⟩ => by
    have : d = 0 := by omega
    subst this; exact h2⟩
  | t + 1, e => by
    show e ∈ levs c ps b t ++ lev c ps b (t + 1) ↔ _
    rw [List.mem_append, levs_mem]
    constructor
    · rintro (⟨d, h1, h2⟩ | h)
      · exact ⟨d, by omega, h2⟩
      · exact ⟨t + 1, Nat.le_refl _, h⟩
    · rintro ⟨d, h1, h2⟩
      by_cases z : d = t + 1
      · subst z; exact .inr h2
      · exact .inl ⟨d, by omega, h2⟩
theorem prior_mem {c : Cal} {ps : List Price} {b : Int} {t : Nat} {e : Ent} : e ∈ prior c ps b t ↔ ∃ d, d < t ∧ e ∈ lev c ps b d := by
  cases t with
  | zero => exact ⟨(fun h => by cases h), fun ⟨d, h, _⟩ => absurd h (Nat.not_lt_zero _)⟩
  | succ t =>
    show e ∈ levs c ps b t ↔ _
    rw [levs_mem]
    exact ⟨fun ⟨d, h1, h2⟩ => ⟨d, by omega, h2⟩, fun ⟨d, h1, h2⟩ => ⟨d, by omega, h2⟩⟩
theorem levs_day {c : Cal} {ps : List Price} {b : Int} (hb : 0 ≤ b) {t : Nat} {e : Ent} (h : e ∈ levs c ps b t) : e.1 ≤ (t : Nat) + 1 := by
  obtain ⟨d, h1, h2⟩ := levs_mem.mp h
  have := (lev_mem hb h2).1
  omega
theorem levs_nodup {c : Cal} {ps : List Price} {b : Int} (hb : 0 ≤ b) : ∀ t : Nat, (levs c ps b t).Nodup
  | 0 => lev_nodup 0
  | t + 1 => by
    show (levs c ps b t ++ lev c ps b (t + 1)).Nodup
    rw [List.nodup_append]
    refine ⟨levs_nodup hb t, lev_nodup _, fun x hx y hy e => ?_⟩
    have h1 := levs_day hb hx
    have h2 := (lev_mem hb hy).1
    rw [e] at h1
    push_cast at h2
    omega
theorem levs_len {c : Cal} {ps : List Price} {b : Int} {n : Nat} : ∀ {t : Nat}, t ≤ n → (levs c ps b t).length ≤ (levs c ps b n).length := fun {t} h => by
  induction n with
  | zero =>
    have : t = 0 := by omega
    rw [this]; exact Nat.le_refl _
  | succ n ih =>
    by_cases z : t = n + 1
    · rw [z]; exact Nat.le_refl _
    · show _ ≤ (levs c ps b n ++ lev c ps b (n + 1)).length
      rw [List.length_append]
      have := ih (by omega)
      omega
/-- what stands in the dict: of the done entries their branches -/
def fv (c : Cal) (ps : List Price) (S : List Ent) (e : Ent) : D := if e ∈ S then brD (outE c ps e) else .lst []
theorem fv_snoc {c : Cal} {ps : List Price} {S : List Ent} {x : Ent} : (fun e => if e = x then brD (outE c ps x) else fv c ps S e) = fv c ps (S ++ [x]) := by
  funext e
  unfold fv
  by_cases h : e = x
  · rw [if_pos h, h, if_pos (by simp)]
  · rw [if_neg h]
    by_cases g : e ∈ S
    · rw [if_pos g, if_pos (List.mem_append_left _ g)]
    · rw [if_neg g, if_neg fun z => (List.mem_append.mp z).elim g fun q => h (List.mem_singleton.mp q)]
/-- the dict of all entries -/
def entF (c : Cal) (ps : List Price) (b : Int) : List (NestedKey × D) := dctG kEnt (levs c ps b c.length) fun e => if e.1 ≤ nDays c then brD (outE c ps e) else .lst []
theorem entF_of {c : Cal} {ps : List Price} {b : Int} (hb : 0 ≤ b) : dctG kEnt (levs c ps b c.length) (fv c ps (prior c ps b c.length)) = entF c ps b := by
  refine dctG_congr fun e he => ?_
  obtain ⟨d, h1, h2⟩ := levs_mem.mp he
  have h3 := (lev_mem hb h2).1
  unfold fv nDays
  by_cases z : e ∈ prior c ps b c.length
  · rw [if_pos z, if_pos]
    obtain ⟨d', h4, h5⟩ := prior_mem.mp z
    have := (lev_mem hb h5).1
    omega
  · rw [if_neg z, if_neg]
    intro q
    exact z (prior_mem.mpr ⟨d, by omega, h2⟩)
theorem lev_nil {c : Cal} {ps : List Price} {b : Int} {t : Nat} (h : lev c ps b t = []) : ∀ k, lev c ps b (t + k) = []
  | 0 => h
  | k + 1 => by
    show ((lev c ps b (t + k)).flatMap _).foldl addG [] = []
    rw [lev_nil h k]; rfl
theorem levs_nil {c : Cal} {ps : List Price} {b : Int} {t : Nat} (h : lev c ps b t = []) : ∀ k, levs c ps b (t + k) = levs c ps b t
  | 0 => rfl
  | k + 1 => by
    show levs c ps b (t + k) ++ lev c ps b (t + (k + 1)) = _
    rw [levs_nil h k, lev_nil h (k + 1), List.append_nil]
/-- no more entries: all is done -/
theorem entF_nil {c : Cal} {ps : List Price} {b : Int} (hb : 0 ≤ b) {t : Nat} (ht : t ≤ c.length) (h : lev c ps b t = []) : dctG kEnt (levs c ps b t) (fv c ps (prior c ps b t)) = entF c ps b := by
  rw [← entF_of hb, show c.length = t + (c.length - t) by omega, levs_nil h]
  refine dctG_congr fun e he => ?_
  have he' := he
  rw [levs_prior, h, List.append_nil] at he'
  unfold fv
  rw [if_pos he', if_pos]
  obtain ⟨d, h1, h2⟩ := prior_mem.mp he'
  exact prior_mem.mpr ⟨d, by omega, h2⟩
end BR

set_option Elab.async false
set_option linter.all false
set_option maxRecDepth 100000
set_option maxHeartbeats 1000000
/-! W9: entries_of. -/
namespace BR
open PySem L2 PySem.Spec PyProof.Rows PD
abbrev sEntries : Stmt := top 29
abbrev NEn : List Str := ["table", "prices", "budget", "found", "waiting", "later", "day", "state", "left", "some", "entry"]
theorem scEn : FnScope NEn ["table", "prices", "budget"] (defScope sEntries) := ⟨rfl, rfl, rfl, by decide +kernel, rfl, by decide +kernel, by decide +kernel⟩
abbrev spEn (M : MW) (C : Addr) : Sp := spO M (fun i : Cal × List Price × Int => [tabD C i.1, pricesD i.2.1, .int i.2.2]) (fun i => EntOk i.1 i.2.1 i.2.2) (fun i d => d = .dct (entF i.1 i.2.1 i.2.2))
def laterK (ss : List Ent) : List (NestedKey × D) := dctG kEnt ss fun _ => .lst []
theorem out_len {c : Cal} {ps : List Price} {e : Ent} (ok : CalOk c) (sb : StB e.2.1) (h1 : 1 ≤ e.1) (h2 : e.1 ≤ nDays c) : (outE c ps e).length ≤ 13 ∧ ∀ s ∈ outE c ps e, s.length ≤ 13 := by
  have hf := followers_len ok sb h1 h2
  unfold outE branchesL
  refine ⟨by rw [List.length_map]; unfold upTo; rw [List.length_map, List.length_range]; exact hf, fun s hs => ?_⟩
  obtain ⟨u, hu, rfl⟩ := List.mem_map.mp hs
  have hu := upTo_mem hu
  unfold branchU
  refine Nat.le_trans (List.length_filter_le _ _) ?_
  unfold upTo
  rw [List.length_map, List.length_map, List.length_range]
  omega
/-- the first branch list has one entry -/
theorem out_first {c : Cal} {ps : List Price} {e : Ent} {s : List Ent} (h : (outE c ps e)[0]? = some s) (hb : 0 ≤ e.2.2) : s.length = 1 := by
  unfold outE branchesL at h
  rw [List.getElem?_map] at h
  unfold upTo at h
  cases q : (List.map (fun i : Nat => (0 : Int) + (i : Nat)) (List.range (followers c e.2.1 e.1).length))[0]? with
  | none => rw [q] at h; cases h
  | some u =>
    rw [q] at h
    have hu : u = 0 := by
      rw [List.getElem?_map] at q
      cases q2 : (List.range (followers c e.2.1 e.1).length)[0]? with
      | none => rw [q2] at q; cases q
      | some z =>
        rw [q2] at q
        have hz : z = 0 := by
          have hl : 0 < (List.range (followers c e.2.1 e.1).length).length := (List.getElem?_eq_some_iff.mp q2).1
          have hl : 0 < (followers c e.2.1 e.1).length := by simpa using hl
          rw [List.getElem?_range hl] at q2
          simpa using q2.symm
        subst hz
        simpa using q.symm
    subst hu
    have h : branchU ps (followers c e.2.1 e.1) e.1 e.2.2 0 = s := by simpa using h
    rw [← h]
    unfold branchU
    have e1 : upTo 0 ((0 : Int) + 1).toNat = [0] := rfl
    rw [e1]
    have hz : ∀ p : Price, paidI p 0 = 0 := fun p => by simp [paidI]
    simp [hz, hb]
theorem ent0 {c : Cal} {ps : List Price} {b : Int} : [(NestedKey.tup (entK (1, [], b)), D.lst [])] = dctG kEnt (levs c ps b 0) (fv c ps (prior c ps b 0)) := by
  unfold dctG levs lev prior fv
  rw [List.map_cons, List.map_nil, if_neg (by simp)]
  rfl
section
variable {P : Program} {w : World} {K : PySem.W.Frag} {mg : Str → Option Value} {base : Heap} {f C : Addr} {fd : FuncData}
def enBody : List Stmt := match (defBody sEntries).getD 2 (.Pass ⟨0, 0, 0, 0⟩) with
  | .While _ b _ _ => b
  | _ => []
def enR (C : Addr) (c : Cal) (ps : List Price) (b : Int) (m : Nat) (r : List Slot) : Prop := ∃ kvs ds x5 x6 x7 x8 x9, r = [.val (tabD C c), .val (pricesD ps), .val (.int b), .ownD kvs, .val (.lst ds), x5, x6, x7, x8, x9, .none] ∧
  ((∃ t, t ≤ c.length ∧ m = c.length + 1 - t ∧ kvs = dctG kEnt (levs c ps b t) (fv c ps (prior c ps b t)) ∧ ds = (lev c ps b t).map entD) ∨ (m = 0 ∧ kvs = entF c ps b ∧ ds = []))
def enB (r : List PD.Slot) : Bool := match r[4]? with
  | some (PD.Slot.val (D.lst ds)) => !ds.isEmpty
  | _ => false
def entU : D → List (Nat × D)
  | .ktp [x, y, z] => [(6, x), (7, y), (8, z)]
  | _ => []
theorem entU_gd {M : MW} {e : Ent} : GD M (gTup K 3 (gCons (gName 6) (gCons (gName 7) (gCons (gName 8) gNil)))) (entD e) (entU (entD e)) := gd_ktp (gd_cons gd_name (gd_cons gd_name (gd_cons gd_name gd_nil)))
theorem later_len {L : List Ent} : (laterK L).length = L.length := length_dctG
theorem lev_ne {c : Cal} {ps : List Price} {b : Int} (t : Nat) : levs c ps b t ≠ [] := by
  induction t with
  | zero => simp [levs, lev]
  | succ t ih => show levs c ps b t ++ _ ≠ []; simp [ih]
/-- the entries behind an entry of level t, done -/
theorem put_done {c : Cal} {ps : List Price} {b : Int} {t : Nat} {S : List Ent} {e : Ent} (h : e ∈ levs c ps b t) : putN (dctG kEnt (levs c ps b t) (fv c ps S)) (.tup (entK e)) (brD (outE c ps e)) = dctG kEnt (levs c ps b t) (fv c ps (S ++ [e])) := by
  show putN _ (kEnt e) _ = _
  rw [putN_dctG kEnt_inj, fv_snoc, show addG (levs c ps b t) e = levs c ps b t from if_pos h]
theorem upd_lev {c : Cal} {ps : List Price} {b : Int} {t : Nat} (hb : 0 ≤ b) : mergeN (dctG kEnt (levs c ps b t) (fv c ps (levs c ps b t))) (laterK (lev c ps b (t + 1))) = dctG kEnt (levs c ps b (t + 1)) (fv c ps (prior c ps b (t + 1))) := by
  have hnd := levs_nodup (c := c) (ps := ps) hb (t + 1)
  have e1 : laterK (lev c ps b (t + 1)) = dctG kEnt (lev c ps b (t + 1)) (fv c ps (levs c ps b t)) := by
    refine dctG_congr fun x hx => ?_
    unfold fv
    rw [if_neg fun z => (List.nodup_append.mp (show (levs c ps b t ++ lev c ps b (t + 1)).Nodup from hnd)).2.2 x z x hx rfl]
  rw [e1, mergeN_same kEnt_inj, addG_nodup hnd]
  rfl
theorem later_step {L s : List Ent} : mergeN (laterK L) (laterK (s.foldl addG [])) = laterK (s.foldl addG L) := by
  unfold laterK
  rw [mergeN_same kEnt_inj, addG_absorb]; rfl
theorem later_dict {s : List Ent} : foldD entK (fun _ => D.lst []) [] s = laterK (s.foldl addG []) := foldD_G (kl := entK) kEnt_inj (fun _ => rfl) (v := fun _ => .lst []) (ss := [])
theorem later_ne {L s : List Ent} (h : L ≠ [] ∨ s ≠ []) : s.foldl addG L ≠ [] := by
  obtain ⟨x, hx⟩ : ∃ x, x ∈ L ∨ x ∈ s := by
    rcases h with h | h
    · exact ⟨_, .inl (List.head_mem h)⟩
    · exact ⟨_, .inr (List.head_mem h)⟩
  exact List.ne_nil_of_mem (mem_addG.mpr hx)
theorem flat_len : ∀ {l : List (List Ent)}, (∀ s ∈ l, s.length ≤ 13) → l.flatten.length ≤ 13 * l.length
  | [], _ => by simp
  | s :: l, h => by
    have h1 := h s List.mem_cons_self
    have h2 := flat_len (l := l) fun y hy => h y (List.mem_cons_of_mem _ hy)
    rw [List.flatten_cons, List.length_append, List.length_cons]
    omega
theorem fm_len {c : Cal} {ps : List Price} : ∀ {l : List Ent}, (∀ e ∈ l, ((outE c ps e).flatten).length ≤ 169) → (l.flatMap fun e => (outE c ps e).flatten).length ≤ 169 * l.length
  | [], _ => by simp
  | s :: l, h => by
    have h1 := h s List.mem_cons_self
    have h2 := fm_len (l := l) fun y hy => h y (List.mem_cons_of_mem _ hy)
    rw [List.flatMap_cons, List.length_append, List.length_cons]
    omega
theorem en_body {cdv : Value} {A : Around} {outer : List Env} {s : Shared} {H H0 : Hp} {E : XK} {W : Wd} {c : Cal} {ps : List Price} {b : Int} {t m : Nat} {x6 x7 x8 x9 : Slot} (T : Txt mg) (TC : TabC K C) (c1 : PD.Cal P w K mg base 3 "branches" ["table", "prices", "day", "state", "budget"] (spBr ⟨P, w⟩ C))
    (hp : EntOk c ps b) (htl : t < c.length) (hm : m = c.length + 1 - t) (hr : Room 3 (A.deeper (envOfC "entries_of" (defScope sEntries) s.heap.objs.size f cdv))) :
    Hs (cxOf CX0 P w K mg base NEn "entries_of" (defScope sEntries) f cdv A outer s H E).nox (enBody.drop 1)
      (At ⟨P, w⟩ W H0 [.val (tabD C c), .val (pricesD ps), .val (.int b), .ownD (dctG kEnt (levs c ps b t) (fv c ps (prior c ps b t))), .val (.lst ((lev c ps b t).map entD)), .ownD [], x6, x7, x8, x9, .none])
      { nx := fun σ H => ∃ m' r', m' < m ∧ enR C c ps b m' r' ∧ At ⟨P, w⟩ W H0 r' σ H, ct := fun σ H => ∃ m' r', m' < m ∧ enR C c ps b m' r' ∧ At ⟨P, w⟩ W H0 r' σ H, rt := Rt ⟨P, w⟩ W H0 fun d => d = .dct (entF c ps b) } := by
  have hu : (cxOf CX0 P w K mg base NEn "entries_of" (defScope sEntries) f cdv A outer s H E).nox.A.units + 64 < cLine := hr.units
  have hn : nDays c = (c.length : Int) := rfl
  have hb0 := hp.b0
  have hszE := hp.size
  obtain ⟨tme, hme⟩ := T.maxEntries
  have hsz : ∀ t, t ≤ c.length → (levs c ps b t).length ≤ 5000 := fun t ht => Nat.le_trans (levs_len ht) hszE
  have hlv : ∀ t, t ≤ c.length → (lev c ps b t).length ≤ 5000 := fun t ht => by
    have := hsz t ht
    rw [levs_prior, List.length_append] at this
    omega
  have hlt := hlv t (by omega)
  have hsub : ∀ e ∈ lev c ps b t, e ∈ levs c ps b t := fun e he => by rw [levs_prior]; exact List.mem_append_right _ he
  have hol : ∀ e ∈ lev c ps b t, (outE c ps e).length ≤ 13 ∧ ∀ s ∈ outE c ps e, s.length ≤ 13 := fun e he => by
    obtain ⟨i1, i2, i3⟩ := lev_mem hb0 he
    exact out_len hp.tab.ok (hp.tab.bd t (by omega) _ i2) (by omega) (by omega)
  have hfl : ∀ e ∈ lev c ps b t, ((outE c ps e).flatten).length ≤ 169 := fun e he => by
    have h1 := flat_len (hol e he).2
    have h2 := (hol e he).1
    omega
  refine hs_for (K' := fun d => d = .dct (entF c ps b)) (fun j r => ∃ x6 x7 x8 x9, r = [.val (tabD C c), .val (pricesD ps), .val (.int b), .ownD (dctG kEnt (levs c ps b t) (fv c ps (prior c ps b t ++ (lev c ps b t).take j))), .val (.lst ((lev c ps b t).map entD)), .ownD (laterK ((((lev c ps b t).take j).flatMap fun e => (outE c ps e).flatten).foldl addG [])), x6, x7, x8, x9, .none])
    rfl PassesOwn.never (ei_list (dv 4)) (pg_tup (n := 3) rfl (pgs_cons (pg_name (i := 6) scEn.nd rfl (.inl rfl)) (pgs_cons (pg_name (i := 7) scEn.nd rfl (.inl rfl)) (pgs_cons (pg_name (i := 8) scEn.nd rfl (.inl rfl)) pgs_nil))))
    ⟨x6, x7, x8, x9, by rw [List.take_zero, List.append_nil]; rfl⟩ entU (fun d hd => ?_) ?_ (fun _ _ h => h) ?_
  · obtain ⟨e, _, rfl⟩ := List.mem_map.mp hd
    exact entU_gd
  · rintro H1 j d r' hd ⟨x6, x7, x8, x9, rfl⟩
    obtain ⟨e, he, rfl⟩ : ∃ e, (lev c ps b t)[j]? = some e ∧ d = entD e := by
      rw [List.getElem?_map] at hd
      cases q : (lev c ps b t)[j]? with
      | none => rw [q] at hd; cases hd
      | some e => rw [q] at hd; exact ⟨e, rfl, by simpa using hd.symm⟩
    have hem := List.mem_of_getElem? he
    obtain ⟨i1, i2, i3⟩ := lev_mem hb0 hem
    rw [take_snoc he, List.flatMap_append, List.foldl_append, ← List.append_assoc]
    have hLl : ((((lev c ps b t).take j).flatMap fun e => (outE c ps e).flatten).foldl addG ([] : List Ent)).length ≤ 169 * 5000 := by
      have h1 := length_addG_le (ss := (((lev c ps b t).take j).flatMap fun e => (outE c ps e).flatten)) (acc := ([] : List Ent))
      have h2 := fm_len (c := c) (ps := ps) (l := (lev c ps b t).take j) fun e he => hfl e (List.mem_of_mem_take he)
      rw [List.length_take] at h2
      rw [List.length_nil] at h1
      omega
    generalize (((lev c ps b t).take j).flatMap fun e => (outE c ps e).flatten).foldl addG ([] : List Ent) = L at hLl
    generalize prior c ps b t ++ (lev c ps b t).take j = S
    rw [show ([e].flatMap fun e => (outE c ps e).flatten) = (outE c ps e).flatten by simp]
    refine hs_ifT (M := fun σ H => ∃ r', (∃ x6 x7 x8 x9, r' = [.val (tabD C c), .val (pricesD ps), .val (.int b), .ownD (dctG kEnt (levs c ps b t) (fv c ps (S ++ [e]))), .val (.lst ((lev c ps b t).map entD)), .ownD (laterK ((outE c ps e).flatten.foldl addG L)), x6, x7, x8, x9, .none]) ∧ At ⟨P, w⟩ W H1 r' σ H)
      (tt_is (td_le (i := e.1) (j := nDays c) (dv 6) (ed_fld (dv 0) TC.cls TC.days rfl)) (decide_eq_true (by omega))) ?_ (hs_nil fun σ H h => h)
    have hkey : ∀ {r : List (Option D)}, r[6]? = some (some (.int e.1)) → r[7]? = some (some (stD e.2.1)) → r[8]? = some (some (.int e.2.2)) → True := fun _ _ _ => trivial
    refine hs_dput (K := fun d => d = brD (outE c ps e)) 3 hu (ed_call c1 (c, ps, e.1, e.2.1, e.2.2) (hr.mono (by decide)) (ea_cons (dv 0) (ea_cons (dv 1) (ea_cons (dv 6) (ea_cons (dv 7) (ea_cons (dv 8) ea_nil))))) ⟨hp.tab.ok, hp.len, by show 1 ≤ e.1; omega, by show e.1 ≤ nDays c; omega, hp.tab.bd t (by omega) _ i2⟩ fun _ h => h) (ov 3)
      (ed_is (ed_ktp (ea_cons (dv 6) (ea_cons (dv 7) (ea_cons (dv 8) ea_nil)))) (kd_kEnt e).symm) rfl (depth_kEnt e) (by rw [length_dctG, sizeLine_eq]; have := hsz t (by omega); omega) fun d ed => ?_
    subst ed
    rw [put_done (hsub e hem)]
    refine hs_forO (K' := fun d => d = .dct (entF c ps b)) (ds := (outE c ps e).map fun s => .lst (s.map entD)) 3 (fun k r => ∃ x9 L', r = [.val (tabD C c), .val (pricesD ps), .val (.int b), .ownD (dctG kEnt (levs c ps b t) (fv c ps (S ++ [e]))), .val (.lst ((lev c ps b t).map entD)), .ownD (laterK L'), .val (.int e.1), .val (stD e.2.1), .val (.int e.2.2), x9, .none] ∧ L' = (((outE c ps e).take k).flatten).foldl addG L ∧ (k = 0 ∨ L' ≠ []))
      hu rfl PassesOwn.never (ov 3) (ed_is (ed_ktp (ea_cons (dv 6) (ea_cons (dv 7) (ea_cons (dv 8) ea_nil)))) (kd_kEnt e).symm) rfl (depth_kEnt e) (by
        show valN _ (kEnt e) = _
        rw [valN_dctG kEnt_inj (hsub e hem)]
        unfold fv
        rw [if_pos (by simp)]) (pg_name (i := 9) scEn.nd rfl (.inl rfl))
      ⟨x9, L, rfl, rfl, .inl rfl⟩ (fun d => [(9, d)]) (fun d _ => gd_name) ?_ (fun _ _ h => h) ?_
    · rintro H2 k d r' hd ⟨x9, L', rfl, hL, hk⟩
      obtain ⟨es, hes, rfl⟩ : ∃ es, (outE c ps e)[k]? = some es ∧ d = .lst (es.map entD) := by
        rw [List.getElem?_map] at hd
        cases q : (outE c ps e)[k]? with
        | none => rw [q] at hd; cases hd
        | some es => rw [q] at hd; exact ⟨es, rfl, by simpa using hd.symm⟩
      have hel := (hol e hem).2 es (List.mem_of_getElem? hes)
      have hL'l : L'.length ≤ 169 * 5000 + 169 := by
        rw [hL]
        have h1 := length_addG_le (ss := ((outE c ps e).take k).flatten) (acc := L)
        have h2 := flat_len (l := (outE c ps e).take k) fun s hs => (hol e hem).2 s (List.mem_of_mem_take hs)
        have h3 := (hol e hem).1
        rw [List.length_take] at h2
        omega
      have hal := length_addG_le (ss := es) (acc := ([] : List Ent))
      rw [List.length_nil] at hal
      refine hs_upd (more := laterK (es.foldl addG [])) 5 hu (ov 5) (ed_newD (ef_dn es entD (fun e => [(10, entD e)]) entK (fun _ => .lst []) hu rfl scEn.nd (ei_list (dv 9)) (blkOk_by (own := [("entry", 10)]) (by rfl)) (fun s H C cl fp => pg_name (i := 10) scEn.nd rfl (.inl rfl)) (fun e _ => gd_name) (fun e _ q hq => by simp at hq; subst hq; simp)
          (fun e _ s H C cl fp => ed_is (dv 10) (kd_kEnt e).symm) (fun e _ s H C cl fp => ed_new (ef_lst ea_nil) fun ds e => by rw [e]) (by rw [sizeLine_eq]; omega) (fun e _ => depth_kEnt e)) fun kvs ek => by rw [ek, later_dict]) rfl
        (by
          rcases hk with hk | hk
          · subst hk
            right
            rw [later_len]
            have := out_first hes i3
            omega
          · left
            intro z
            apply hk
            have : (laterK L').length = 0 := by rw [z]; rfl
            rw [later_len] at this
            exact List.length_eq_zero_iff.mp this) (by rw [later_len, later_len, sizeLine_eq]; omega) ?_
      rw [later_step]
      refine hs_nil fun σ H h => ⟨_, ⟨_, es.foldl addG L', rfl, ?_, .inr ?_⟩, h⟩
      · rw [take_snoc hes, List.flatten_append, List.foldl_append, hL]
        simp
      · rcases hk with hk | hk
        · subst hk
          have := out_first hes i3
          exact later_ne (.inr fun z => by rw [z] at this; cases this)
        · exact later_ne (.inl hk)
    · rintro r' ⟨x9, L', rfl, hL, hk⟩
      rw [List.length_map, List.take_length] at hL
      subst hL
      exact hs_nil fun σ H h => ⟨_, ⟨_, _, _, _, rfl⟩, h⟩
  · rintro r' ⟨x6, x7, x8, x9, rfl⟩
    rw [List.length_map, List.take_length, ← levs_prior]
    have hs1 := hsz (t + 1) (by omega)
    have hs2 := hlv (t + 1) (by omega)
    have hs3 := hsz t (by omega)
    refine hs_frzD 5 rfl ?_
    refine hs_upd (more := laterK (lev c ps b (t + 1))) 3 hu (ov 3) (dv 5) rfl (.inl fun z => lev_ne (c := c) (ps := ps) (b := b) t (by
      have : (dctG kEnt (levs c ps b t) (fv c ps (levs c ps b t))).length = 0 := by rw [z]; rfl
      rw [length_dctG] at this
      exact List.length_eq_zero_iff.mp this)) (by rw [length_dctG, later_len, sizeLine_eq]; omega) ?_
    rw [upd_lev hb0]
    refine hs_ifV (M := At ⟨P, w⟩ W H0 [.val (tabD C c), .val (pricesD ps), .val (.int b), .ownD (dctG kEnt (levs c ps b (t + 1)) (fv c ps (prior c ps b (t + 1)))), .val (.lst ((lev c ps b t).map entD)), .val (.dct (laterK (lev c ps b (t + 1)))), x6, x7, x8, x9, .none]) 3 rfl rfl (tt_is (td_gt (ed_lenD T.len (ea_cons (dv 3) ea_nil)) (ed_globI hme)) (l := false) (by rw [length_dctG, decide_eq_false_iff_not]; omega)) (fun z => nomatch z) (fun _ => hs_nil fun σ H h => h) ?_
    refine hs_setD 4 (d := .lst ((lev c ps b (t + 1)).map entD)) (ed_new (ef_listN (x := "") rfl T.list (ea_cons (dv 5) ea_nil)) fun ds e => by
      rw [e]
      unfold laterK dctG
      rw [List.map_map]
      congr 1
      exact List.map_congr_left fun x _ => kd_kEnt x) ?_ scEn.nd
    exact hs_nil fun σ H h => ⟨c.length + 1 - (t + 1), _, by omega, ⟨_, _, _, _, _, _, _, rfl, .inl ⟨t + 1, by omega, rfl, rfl, rfl⟩⟩, h⟩
theorem en_last {cdv : Value} {A : Around} {outer : List Env} {s : Shared} {H H0 : Hp} {E : XK} {W : Wd} {c : Cal} {ps : List Price} {b : Int} {m : Nat} {x6 x7 x8 x9 : Slot} (T : Txt mg) (TC : TabC K C)
    (hp : EntOk c ps b) (hm : m = c.length + 1 - c.length) (hr : Room 3 (A.deeper (envOfC "entries_of" (defScope sEntries) s.heap.objs.size f cdv))) :
    Hs (cxOf CX0 P w K mg base NEn "entries_of" (defScope sEntries) f cdv A outer s H E).nox (enBody.drop 1)
      (At ⟨P, w⟩ W H0 [.val (tabD C c), .val (pricesD ps), .val (.int b), .ownD (dctG kEnt (levs c ps b c.length) (fv c ps (prior c ps b c.length))), .val (.lst ((lev c ps b c.length).map entD)), .ownD [], x6, x7, x8, x9, .none])
      { nx := fun σ H => ∃ m' r', m' < m ∧ enR C c ps b m' r' ∧ At ⟨P, w⟩ W H0 r' σ H, ct := fun σ H => ∃ m' r', m' < m ∧ enR C c ps b m' r' ∧ At ⟨P, w⟩ W H0 r' σ H, rt := Rt ⟨P, w⟩ W H0 fun d => d = .dct (entF c ps b) } := by
  have hu : (cxOf CX0 P w K mg base NEn "entries_of" (defScope sEntries) f cdv A outer s H E).nox.A.units + 64 < cLine := hr.units
  have hn : nDays c = (c.length : Int) := rfl
  have hb0 := hp.b0
  have hszE := hp.size
  obtain ⟨tme, hme⟩ := T.maxEntries
  rw [entF_of hb0]
  have hel : (entF c ps b).length ≤ 5000 := by unfold entF; rw [length_dctG]; exact hszE
  refine hs_for (K' := fun d => d = .dct (entF c ps b)) (fun j r => ∃ x6 x7 x8 x9, r = [.val (tabD C c), .val (pricesD ps), .val (.int b), .ownD (entF c ps b), .val (.lst ((lev c ps b c.length).map entD)), .ownD [], x6, x7, x8, x9, .none])
    rfl PassesOwn.never (ei_list (dv 4)) (pg_tup (n := 3) rfl (pgs_cons (pg_name (i := 6) scEn.nd rfl (.inl rfl)) (pgs_cons (pg_name (i := 7) scEn.nd rfl (.inl rfl)) (pgs_cons (pg_name (i := 8) scEn.nd rfl (.inl rfl)) pgs_nil))))
    ⟨x6, x7, x8, x9, rfl⟩ entU (fun d hd => ?_) ?_ (fun _ _ h => h) ?_
  · obtain ⟨e, _, rfl⟩ := List.mem_map.mp hd
    exact entU_gd
  · rintro H1 j d r' hd ⟨x6, x7, x8, x9, rfl⟩
    obtain ⟨e, he, rfl⟩ : ∃ e, (lev c ps b c.length)[j]? = some e ∧ d = entD e := by
      rw [List.getElem?_map] at hd
      cases q : (lev c ps b c.length)[j]? with
      | none => rw [q] at hd; cases hd
      | some e => rw [q] at hd; exact ⟨e, rfl, by simpa using hd.symm⟩
    obtain ⟨i1, i2, i3⟩ := lev_mem hb0 (List.mem_of_getElem? he)
    refine hs_ifF (tt_is (td_le (i := e.1) (j := nDays c) (dv 6) (ed_fld (dv 0) TC.cls TC.days rfl)) (decide_eq_false (by omega))) ?_
    exact hs_nil fun σ H h => ⟨_, ⟨_, _, _, _, rfl⟩, h⟩
  · rintro r' ⟨x6, x7, x8, x9, rfl⟩
    refine hs_frzD 5 rfl ?_
    refine hs_upd (more := []) 3 hu (ov 3) (dv 5) rfl (.inr (Nat.zero_le _)) (by rw [sizeLine_eq]; simp only [List.length_nil]; omega) ?_
    rw [show mergeN (entF c ps b) [] = entF c ps b from rfl]
    refine hs_ifV (M := At ⟨P, w⟩ W H0 [.val (tabD C c), .val (pricesD ps), .val (.int b), .ownD (entF c ps b), .val (.lst ((lev c ps b c.length).map entD)), .val (.dct []), x6, x7, x8, x9, .none]) 3 rfl rfl (tt_is (td_gt (ed_lenD T.len (ea_cons (dv 3) ea_nil)) (ed_globI hme)) (l := false) (by rw [decide_eq_false_iff_not]; omega)) (fun z => nomatch z) (fun _ => hs_nil fun σ H h => h) ?_
    refine hs_setD 4 (d := .lst []) (ed_new (ef_listN (x := "") rfl T.list (ea_cons (dv 5) ea_nil)) fun ds e => by rw [e]; rfl) ?_ scEn.nd
    exact hs_nil fun σ H h => ⟨0, _, by omega, ⟨_, _, _, _, _, _, _, rfl, .inr ⟨rfl, rfl, rfl⟩⟩, h⟩
theorem ok_entries (T : Txt mg) (TC : TabC K C) (c1 : PD.Cal P w K mg base 3 "branches" ["table", "prices", "day", "state", "budget"] (spBr ⟨P, w⟩ C)) (F : Fun K "entries_of" "entries_of" sEntries f fd) :
    FnOk P w K mg base CX0 4 f fd ["table", "prices", "budget"] (spEn ⟨P, w⟩ C) := by
  refine fn_D F scEn (fun _ => rfl) (by decide) fun cdv A outer s H E W H0 i hr hp => ?_
  show Hs (cxOf CX0 P w K mg base NEn "entries_of" (defScope sEntries) f cdv A outer s H E).nox (_ :: _) _ _
  obtain ⟨c, ps, b⟩ := i
  simp only at hp
  have hu : (cxOf CX0 P w K mg base NEn "entries_of" (defScope sEntries) f cdv A outer s H E).nox.A.units + 64 < cLine := hr.units
  have hn : nDays c = (c.length : Int) := rfl
  have hb0 := hp.b0
  have hszE := hp.size
  obtain ⟨tme, hme⟩ := T.maxEntries
  have hsz : ∀ t, t ≤ c.length → (levs c ps b t).length ≤ 5000 := fun t ht => Nat.le_trans (levs_len ht) hszE
  have hlv : ∀ t, t ≤ c.length → (lev c ps b t).length ≤ 5000 := fun t ht => by
    have := hsz t ht
    rw [levs_prior, List.length_append] at this
    omega
  obtain ⟨ks0, hks0⟩ : ∃ ks, ks = entK (1, [], b) := ⟨_, rfl⟩
  have h0 : D.ktp [.int 1, .ktp [], .int b] = kd (.tup ks0) := by rw [hks0]; exact (kd_kEnt (1, [], b)).symm
  have hd0 : (NestedKey.tup ks0).depth ≤ 8 := by rw [hks0]; exact depth_kEnt (1, [], b)
  refine hs_setNewD 3 (ef_dct1 (ks := ks0) (d := .lst []) hu (ed_is (ed_ktp (ea_cons ed_int (ea_cons (ed_ktp (ds := []) ea_nil) (ea_cons (dv 2) ea_nil)))) h0) (ed_new (ef_lst ea_nil) fun ds e => by rw [e]) hd0) (fun kvs e => ?_) (Nat.le_of_ble_eq_true rfl) scEn.nd
  rw [hks0] at e
  rw [show kvs = dctG kEnt (levs c ps b 0) (fv c ps (prior c ps b 0)) from e.trans ent0]
  clear e
  refine hs_setD 4 (d := .lst ((lev c ps b 0).map entD)) (ed_new (ef_lst (ea_cons (ed_ktp (ea_cons ed_int (ea_cons (ed_ktp (ds := []) ea_nil) (ea_cons (dv 2) ea_nil)))) ea_nil)) fun ds e => by rw [e]; rfl) ?_ scEn.nd
  refine hs_while (K' := fun d => d = .dct (entF c ps b)) (enR C c ps b)
    enB (c.length + 1) PassesOwn.never
    ⟨_, _, _, _, _, _, _, rfl, .inl ⟨0, Nat.zero_le _, rfl, rfl, rfl⟩⟩ ?_ ?_ (fun _ _ h => h) ?_
  · rintro m r' ⟨kvs, ds, x5, x6, x7, x8, x9, rfl, _⟩
    exact tt_is (td_neL0 hu (dv 4) (ed_new (ef_lst ea_nil) fun ds e => by rw [e])) rfl
  · rintro m r' ⟨kvs, ds, x5, x6, x7, x8, x9, rfl, hh⟩ hne
    have hne : ds ≠ [] := fun e => by subst e; cases hne
    rcases hh with ⟨t, ht, hm, hkv, hds⟩ | ⟨_, _, e⟩
    rotate_left
    · exact absurd e hne
    subst hkv; subst hds
    refine hs_setNewD 5 ef_dct0 (fun kvs e => ?_) (Nat.le_of_ble_eq_true rfl) scEn.nd
    subst e
    rcases Nat.lt_or_ge t c.length with htl | hge
    · exact @en_body P w K mg base f C cdv A outer s H H0 E W c ps b t m x6 x7 x8 x9 T TC c1 hp htl hm hr
    · have : t = c.length := by omega
      subst this
      exact @en_last P w K mg base f C cdv A outer s H H0 E W c ps b m x6 x7 x8 x9 T TC hp hm hr
  · rintro m r' ⟨kvs, ds, x5, x6, x7, x8, x9, rfl, hh⟩ hb
    have hds : ds = [] := by
      cases ds with
      | nil => rfl
      | cons a l => cases hb
    have hkv : kvs = entF c ps b := by
      rcases hh with ⟨t, ht, hm, hkv, hd⟩ | ⟨_, e, _⟩
      · rw [hkv]
        rw [hds] at hd
        exact entF_nil hb0 ht (List.map_eq_nil_iff.mp hd.symm)
      · exact e
    subst hkv
    exact hs_frzD 3 rfl (hs_retD (dv 3) rfl)
end
end BR

set_option linter.all false
/-! A1: pasts, what is away, room by pasts, allowed rows (plain). -/
namespace BR
/-! ### sums over 0..n -/
def upN (n : Int) : List Int := (List.range n.toNat).map fun i : Nat => (i : Int)
theorem upN_mem {n x : Int} : x ∈ upN n ↔ 0 ≤ x ∧ x < n := by
  unfold upN
  rw [List.mem_map]
  constructor
  · rintro ⟨i, hi, rfl⟩
    have := List.mem_range.mp hi
    omega
  · rintro ⟨h1, h2⟩
    exact ⟨x.toNat, List.mem_range.mpr (by omega), by omega⟩
theorem upN_len (n : Int) : (upN n).length = n.toNat := by unfold upN; simp
theorem upN_succ {n : Int} (h : 0 ≤ n) : upN (n + 1) = upN n ++ [n] := by
  unfold upN
  rw [show (n + 1).toNat = n.toNat + 1 by omega, List.range_succ, List.map_append]
  simp [Int.toNat_of_nonneg h]
theorem upTo0 (n : Nat) : upTo 0 n = upN (n : Int) := by
  unfold upTo upN
  rw [Int.toNat_natCast]
  exact List.map_congr_left fun i _ => by omega
theorem sum_le_sum {α : Type} {f g : α → Int} : ∀ {l : List α}, (∀ x ∈ l, f x ≤ g x) → (l.map f).sum ≤ (l.map g).sum
  | [], _ => by simp
  | a :: l, h => by
    have h1 := h a List.mem_cons_self
    have h2 := sum_le_sum (l := l) fun x hx => h x (List.mem_cons_of_mem _ hx)
    simp only [List.map_cons, List.sum_cons]
    omega
theorem sum_nonneg {α : Type} {f : α → Int} {l : List α} (h : ∀ x ∈ l, 0 ≤ f x) : 0 ≤ (l.map f).sum := by
  have := sum_le_sum (f := fun _ => 0) h
  have e : (l.map fun _ => (0 : Int)).sum = 0 := by
    clear h this
    induction l with
    | nil => rfl
    | cons a l ih => rw [List.map_cons, List.sum_cons, ih]; rfl
  omega
theorem sum_zero {α : Type} {f : α → Int} {l : List α} (h : ∀ x ∈ l, f x = 0) : (l.map f).sum = 0 := by
  induction l with
  | nil => rfl
  | cons a l ih =>
    rw [List.map_cons, List.sum_cons, ih fun x hx => h x (List.mem_cons_of_mem _ hx), h a List.mem_cons_self]; rfl
/-- a sum over fewer numbers -/
theorem sum_up_le {f g : Int → Int} {m n : Int} (hmn : m ≤ n) (hfg : ∀ x, 0 ≤ x → x < m → f x ≤ g x) (hg : ∀ x, 0 ≤ x → x < n → 0 ≤ g x) : ((upN m).map f).sum ≤ ((upN n).map g).sum := by
  by_cases h0 : 0 ≤ m
  · have : ∀ k : Nat, m + k ≤ n → ((upN m).map f).sum ≤ ((upN (m + k)).map g).sum := fun k => by
      induction k with
      | zero =>
        intro _
        rw [Int.natCast_zero, Int.add_zero]
        exact sum_le_sum fun x hx => hfg x (upN_mem.mp hx).1 (upN_mem.mp hx).2
      | succ k ih =>
        intro hk
        have h1 := ih (by omega)
        rw [show m + ((k + 1 : Nat) : Int) = (m + k) + 1 by omega, upN_succ (by omega), List.map_append, List.sum_append]
        have := hg (m + k) (by omega) (by omega)
        simp only [List.map_cons, List.map_nil, List.sum_cons, List.sum_nil]
        omega
    have h := this (n - m).toNat (by omega)
    rw [show m + ((n - m).toNat : Int) = n by omega] at h
    exact h
  · have e : upN m = [] := by unfold upN; rw [show m.toNat = 0 by omega]; rfl
    rw [e]
    exact sum_nonneg fun x hx => hg x (upN_mem.mp hx).1 (upN_mem.mp hx).2
/-! ### the greatest -/
def maxL : List Int → Int
  | [] => 0
  | [a] => a
  | a :: b :: r => let m := maxL (b :: r); if a < m then m else a
theorem maxL_mem : ∀ {l : List Int}, l ≠ [] → maxL l ∈ l
  | [], h => absurd rfl h
  | [a], _ => by simp [maxL]
  | a :: b :: r, _ => by
    have ih := maxL_mem (l := b :: r) (by simp)
    show (if a < maxL (b :: r) then maxL (b :: r) else a) ∈ a :: b :: r
    by_cases h : a < maxL (b :: r)
    · rw [if_pos h]; exact List.mem_cons_of_mem _ ih
    · rw [if_neg h]; exact List.mem_cons_self
theorem le_maxL : ∀ {l : List Int} {y : Int}, y ∈ l → y ≤ maxL l
  | [], y, h => absurd h (by simp)
  | [a], y, h => by
    have : y = a := by simpa using h
    rw [this]; exact Int.le_refl _
  | a :: b :: r, y, h => by
    show y ≤ (if a < maxL (b :: r) then maxL (b :: r) else a)
    rcases List.mem_cons.mp h with e | e
    · subst e
      split <;> omega
    · have := le_maxL (l := b :: r) e
      split <;> omega
theorem maxL_le {l : List Int} {m : Int} (hne : l ≠ []) (h : ∀ y ∈ l, y ≤ m) : maxL l ≤ m := h _ (maxL_mem hne)
theorem maxL_mono {l l' : List Int} (hne : l ≠ []) (h : ∀ y ∈ l, ∃ y' ∈ l', y ≤ y') : maxL l ≤ maxL l' := by
  obtain ⟨y', h1, h2⟩ := h _ (maxL_mem hne)
  have := le_maxL h1
  omega
theorem maxL_eq {l : List Int} {m : Int} (h1 : m ∈ l) (h2 : ∀ y ∈ l, y ≤ m) : maxL l = m := by
  have := le_maxL h1
  have := h2 _ (maxL_mem (List.ne_nil_of_mem h1))
  omega
theorem minL_eq {l : List Int} {m : Int} (h1 : m ∈ l) (h2 : ∀ y ∈ l, m ≤ y) : minL l = m := by
  have := minL_le h1
  have := h2 _ (minL_mem (List.ne_nil_of_mem h1))
  omega
/-! ### what is away -/
def awayP (c : Cal) (past : List Int) (l : Int) : Int := (past.mapIdx fun i x => if l < at1 (backs c) ((i : Nat) + 1) then x else 0).sum
theorem awayP_nil (c : Cal) (l : Int) : awayP c [] l = 0 := rfl
theorem awayP_snoc (c : Cal) (past : List Int) (x l : Int) : awayP c (past ++ [x]) l = awayP c past l + if l < at1 (backs c) ((past.length : Int) + 1) then x else 0 := by
  unfold awayP
  rw [List.mapIdx_append, List.sum_append]
  simp
/-- all numbers are >= 0 -/
def NonNeg (past : List Int) : Prop := ∀ x ∈ past, 0 ≤ x
theorem NonNeg.snoc {past : List Int} {x : Int} (h : NonNeg past) (hx : 0 ≤ x) : NonNeg (past ++ [x]) := fun y hy => by
  rcases List.mem_append.mp hy with h1 | h1
  · exact h y h1
  · rw [List.mem_singleton.mp h1]; exact hx
theorem snocInd {α : Type} {motive : List α → Prop} (h0 : motive []) (h1 : ∀ l a, motive l → motive (l ++ [a])) (l : List α) : motive l := by
  have : ∀ r : List α, motive r.reverse := fun r => by
    induction r with
    | nil => exact h0
    | cons a r ih => rw [List.reverse_cons]; exact h1 _ _ ih
  rw [← List.reverse_reverse l]
  exact this _
theorem NonNeg.init {past : List Int} {x : Int} (h : NonNeg (past ++ [x])) : NonNeg past ∧ 0 ≤ x := ⟨fun y hy => h y (List.mem_append_left _ hy), h x (List.mem_append_right _ (by simp))⟩
theorem awayP_anti {c : Cal} {l l' : Int} (hl : l ≤ l') : ∀ {past : List Int}, NonNeg past → awayP c past l' ≤ awayP c past l := fun {past} => by
  induction past using snocInd with
  | h0 => intro _; exact Int.le_refl _
  | h1 p x ih =>
    intro h
    obtain ⟨h1, h2⟩ := h.init
    have := ih h1
    rw [awayP_snoc, awayP_snoc]
    by_cases q : l' < at1 (backs c) ((p.length : Int) + 1)
    · rw [if_pos q, if_pos (by omega)]; omega
    · rw [if_neg q]; split <;> omega
theorem awayP_nonneg {c : Cal} {l : Int} : ∀ {past : List Int}, NonNeg past → 0 ≤ awayP c past l := fun {past} => by
  induction past using snocInd with
  | h0 => intro _; exact Int.le_refl _
  | h1 p x ih =>
    intro h
    obtain ⟨h1, h2⟩ := h.init
    have := ih h1
    rw [awayP_snoc]
    split <;> omega
/-! ### room -/
def spareP (c : Cal) (past : List Int) : List Int := ((lowDays (owned c) (nDays c) ((past.length : Int) + 1)).filter fun l => decide (l < at1 (backs c) ((past.length : Int) + 1))).map fun l => at1 (owned c) l - awayP c past l
def roomP (c : Cal) (past : List Int) : Int := minL (spareP c past)
/-- a calendar: the number owned is >= 0, the pieces come back behind the day -/
structure CalA (c : Cal) : Prop where
  own : ∀ d, 0 ≤ at1 (owned c) d
  back : ∀ d, 1 ≤ d → d ≤ nDays c → d < at1 (backs c) d
theorem upTo_mem' {a : Int} {n : Nat} {x : Int} : x ∈ upTo a n ↔ a ≤ x ∧ x < a + n := by
  unfold upTo
  rw [List.mem_map]
  constructor
  · rintro ⟨i, hi, rfl⟩
    have := List.mem_range.mp hi
    omega
  · rintro ⟨h1, h2⟩
    exact ⟨(x - a).toNat, List.mem_range.mpr (by omega), by omega⟩
theorem upTo_snoc {a : Int} {n : Nat} : upTo a (n + 1) = upTo a n ++ [a + (n : Nat)] := by
  unfold upTo
  rw [List.range_succ, List.map_append]; rfl
/-- the low days: the fold so far -/
structure LowInv (o : List Int) (day m : Int) (f : List Int) : Prop where
  ne : f ≠ []
  rng : ∀ l ∈ f, day ≤ l ∧ l ≤ m
  all : ∀ j, day ≤ j → j ≤ m → ∃ l ∈ f, l ≤ j ∧ at1 o l ≤ at1 o j
  last : ∀ j, day ≤ j → j ≤ m → at1 o (f.getLastD 0) ≤ at1 o j
theorem lowInv (o : List Int) (day : Int) : ∀ n : Nat, LowInv o day (day + n) ((upTo (day + 1) n).foldl (lowStep o) [day])
  | 0 => ⟨by simp [upTo], fun l hl => by
      have : l = day := by simpa [upTo] using hl
      omega, fun j h1 h2 => ⟨day, by simp [upTo], by omega, by rw [show j = day by omega]; exact Int.le_refl _⟩, fun j h1 h2 => by
      rw [show j = day by omega]; exact Int.le_refl _⟩
  | n + 1 => by
    have ih := lowInv o day n
    rw [upTo_snoc, List.foldl_append]
    generalize (upTo (day + 1) n).foldl (lowStep o) [day] = f at ih
    have e : day + 1 + (n : Nat) = day + ((n + 1 : Nat) : Int) := by omega
    rw [e]
    show LowInv o day (day + ((n + 1 : Nat) : Int)) (lowStep o f (day + ((n + 1 : Nat) : Int)))
    generalize hm : day + ((n + 1 : Nat) : Int) = m
    have hm' : day + (n : Int) = m - 1 := by omega
    rw [hm'] at ih
    unfold lowStep
    by_cases h : at1 o m < at1 o (f.getLastD 0)
    · rw [if_pos h]
      refine ⟨by simp, fun l hl => ?_, fun j h1 h2 => ?_, fun j h1 h2 => ?_⟩
      · rcases List.mem_append.mp hl with q | q
        · have := ih.rng l q; omega
        · rw [List.mem_singleton.mp q]; omega
      · by_cases z : j = m
        · exact ⟨m, by simp, by omega, by rw [z]; exact Int.le_refl _⟩
        · obtain ⟨l, k1, k2, k3⟩ := ih.all j h1 (by omega)
          exact ⟨l, List.mem_append_left _ k1, k2, k3⟩
      · rw [show (f ++ [m]).getLastD 0 = m by simp]
        by_cases z : j = m
        · rw [z]; exact Int.le_refl _
        · have := ih.last j h1 (by omega); omega
    · rw [if_neg h]
      refine ⟨ih.ne, fun l hl => by have := ih.rng l hl; omega, fun j h1 h2 => ?_, fun j h1 h2 => ?_⟩
      · by_cases z : j = m
        · have hl : f.getLastD 0 ∈ f := by
            rw [List.getLastD_eq_getLast?, List.getLast?_eq_getLast ih.ne]
            exact List.getLast_mem ih.ne
          exact ⟨_, hl, by have := ih.rng _ hl; omega, by rw [z]; omega⟩
        · obtain ⟨l, k1, k2, k3⟩ := ih.all j h1 (by omega)
          exact ⟨l, k1, k2, k3⟩
      · by_cases z : j = m
        · rw [z]; omega
        · exact ih.last j h1 (by omega)
theorem lowDays_inv {o : List Int} {n day : Int} (h : day ≤ n) : LowInv o day n (lowDays o n day) := by
  have := lowInv o day (n - day).toNat
  rw [show day + ((n - day).toNat : Int) = n by omega] at this
  exact this
/-- room: the least of what is spare on all days before the pieces come back -/
structure IsRoom (c : Cal) (past : List Int) (m : Int) : Prop where
  le : ∀ j : Int, (past.length : Int) + 1 ≤ j → j ≤ nDays c → j < at1 (backs c) ((past.length : Int) + 1) → m ≤ at1 (owned c) j - awayP c past j
  ex : ∃ j : Int, (past.length : Int) + 1 ≤ j ∧ j ≤ nDays c ∧ j < at1 (backs c) ((past.length : Int) + 1) ∧ m = at1 (owned c) j - awayP c past j
theorem roomP_is {c : Cal} (ok : CalA c) {past : List Int} (hn : NonNeg past) (hl : (past.length : Int) < nDays c) : IsRoom c past (roomP c past) := by
  have inv := lowDays_inv (o := owned c) (n := nDays c) (day := (past.length : Int) + 1) (by omega)
  have hb := ok.back ((past.length : Int) + 1) (by omega) (by omega)
  have hne : spareP c past ≠ [] := by
    obtain ⟨l, k1, k2, _⟩ := inv.all ((past.length : Int) + 1) (by omega) (by omega)
    have := inv.rng l k1
    refine List.ne_nil_of_mem (a := at1 (owned c) l - awayP c past l) (List.mem_map.mpr ⟨l, List.mem_filter.mpr ⟨k1, ?_⟩, rfl⟩)
    rw [decide_eq_true_eq]; omega
  refine ⟨fun j h1 h2 h3 => ?_, ?_⟩
  · obtain ⟨l, k1, k2, k3⟩ := inv.all j h1 h2
    have hm : at1 (owned c) l - awayP c past l ∈ spareP c past := List.mem_map.mpr ⟨l, List.mem_filter.mpr ⟨k1, by rw [decide_eq_true_eq]; omega⟩, rfl⟩
    have h4 := minL_le hm
    have h5 := awayP_anti (c := c) k2 hn
    show minL _ ≤ _
    omega
  · obtain ⟨l, k1, k2⟩ := List.mem_map.mp (minL_mem hne)
    obtain ⟨k3, k4⟩ := List.mem_filter.mp k1
    have := inv.rng l k3
    rw [decide_eq_true_eq] at k4
    exact ⟨l, this.1, this.2, k4, k2.symm⟩
theorem IsRoom.uniq {c c' : Cal} {past past' : List Int} {m m' : Int} (h : IsRoom c past m) (h' : IsRoom c' past' m') (k1 : ∀ j : Int, (past.length : Int) + 1 ≤ j → j ≤ nDays c → j < at1 (backs c) ((past.length : Int) + 1) → ∃ j' : Int, (past'.length : Int) + 1 ≤ j' ∧ j' ≤ nDays c' ∧ j' < at1 (backs c') ((past'.length : Int) + 1) ∧ at1 (owned c') j' - awayP c' past' j' ≤ at1 (owned c) j - awayP c past j) : m' ≤ m := by
  obtain ⟨j, h1, h2, h3, h4⟩ := h.ex
  obtain ⟨j', g1, g2, g3, g4⟩ := k1 j h1 h2 h3
  have := h'.le j' g1 g2 g3
  omega
end BR

set_option Elab.async false
set_option linter.all false
set_option maxRecDepth 100000
set_option maxHeartbeats 1000000
/-! W10: most_of, require_budget, levels_within. -/
namespace BR
open PySem L2 PySem.Spec PyProof.Rows PD
theorem _root_.L2.PK.wk {X : Cx} {kws : List Keyword} {t t' : TA} (h : PK X kws t) (w : ∀ σ H Q, t' σ H Q → t σ H Q) : PK X kws t' := ⟨fun pos pins s σ H Q I q => h.run pos pins s σ H Q I (w σ H Q q)⟩
theorem ek_one {X : Cx} {M : MW} {r : List (Option D)} {e : Expr} {d : D} {nm : Option Str} {kpos : Pos} (h : PE X e (tD M r d)) : PK X [⟨nm, e, kpos⟩] (tAD M r [d]) :=
  (pk_cons h pk_nil).wk fun σ H Q ⟨W, hs, ok, q⟩ => ⟨W, hs, ok, fun x H1 dx kx e1 rx => by subst kx; exact q [x] H1 _ rfl e1 ⟨x, [], rfl, rx, rfl⟩⟩
abbrev sMost : Stmt := top 30
abbrev sReqBud : Stmt := top 31
abbrev sLevW : Stmt := top 32
/-- the greatest number of levels, k days left -/
def mostK (c : Cal) (ps : List Price) : Nat → Ent → Int
  | 0, _ => 1
  | k + 1, e => maxL ((outE c ps e).map fun s => (s.map (mostK c ps k)).sum)
def mE (c : Cal) (ps : List Price) (e : Ent) : Int := mostK c ps (nDays c + 1 - e.1).toNat e
theorem kLt_kEnt {a b : Ent} (h : a.1 < b.1) : kLt (kEnt a) (kEnt b) = true := by
  unfold kEnt
  simp [kLt, kLts, h]
theorem sorted_ents {S : List Ent} {ks : List NestedKey} (h : Sorted ks.reverse (S.map kEnt)) : ∃ L : List Ent, ks = L.map kEnt ∧ (∀ e, e ∈ L ↔ e ∈ S) ∧ L.length = S.length ∧ L.Pairwise fun a b => b.1 ≤ a.1 := by
  obtain ⟨hp, hs⟩ := h
  have hp : ks.Perm (S.map kEnt) := (List.reverse_perm ks).symm.trans hp
  have : ∀ (ks : List NestedKey), (∀ k ∈ ks, ∃ p, k = kEnt p) → ∃ m : List Ent, ks = m.map kEnt := fun ks => by
    induction ks with
    | nil => intro _; exact ⟨[], rfl⟩
    | cons k ks ih =>
      intro h
      obtain ⟨p, e⟩ := h k List.mem_cons_self
      obtain ⟨m, e2⟩ := ih fun x hx => h x (List.mem_cons_of_mem _ hx)
      exact ⟨p :: m, by rw [e, e2]; rfl⟩
  obtain ⟨L, eL⟩ := this ks fun k hk => by
    obtain ⟨p, _, e⟩ := List.mem_map.mp (hp.mem_iff.mp hk)
    exact ⟨p, e.symm⟩
  subst eL
  refine ⟨L, rfl, fun e => ?_, by simpa using hp.length_eq, ?_⟩
  · have := hp.mem_iff (a := kEnt e)
    rw [List.mem_map, List.mem_map] at this
    constructor
    · intro he
      obtain ⟨x, hx, e2⟩ := this.mp ⟨e, he, rfl⟩
      rw [← kEnt_inj e2]; exact hx
    · intro he
      obtain ⟨x, hx, e2⟩ := this.mpr ⟨e, he, rfl⟩
      rw [← kEnt_inj e2]; exact hx
  · rw [List.pairwise_reverse, List.pairwise_map] at hs
    refine hs.imp fun {a b} hab => ?_
    rcases Int.lt_or_le a.1 b.1 with q | q
    · rw [kLt_kEnt q] at hab; cases hab
    · exact q
theorem sortK_ents (S : List Ent) : SortK (S.map kEnt) where
  hd := fun k hk => let ⟨p, _, e⟩ := List.mem_map.mp hk; ⟨p.1, [kSt p.2.1, .num p.2.2], e.symm⟩
  dp := fun k hk => by
    obtain ⟨p, _, e⟩ := List.mem_map.mp hk
    rw [← e]
    exact depth_kEnt p
  cm := fun k hk k' hk' => by
    obtain ⟨p, _, e⟩ := List.mem_map.mp hk
    obtain ⟨q, _, e'⟩ := List.mem_map.mp hk'
    rw [← e, ← e']
    have h1 : ∀ a b : Int × Int, kCmp (kp a) (kp b) = true := fun a b => by simp [kp, kCmp, kCmps]
    have h2 : ∀ l m : State, kCmps (l.map kp) (m.map kp) = true := fun l => by
      induction l with
      | nil => intro m; cases m <;> simp [kCmps]
      | cons a l ih =>
        intro m
        cases m with
        | nil => simp [kCmps]
        | cons b m => simp [kCmps, h1, ih]
    simp [kEnt, kSt, kCmp, kCmps, h2]
theorem pure_ents (S : List Ent) : ∀ k ∈ S.map kEnt, kPure k = true := fun k hk => by
  obtain ⟨p, _, e⟩ := List.mem_map.mp hk
  rw [← e]
  have h2 : ∀ l : State, kPures (l.map kp) = true := fun l => by
    induction l with
    | nil => simp [kPures]
    | cons a l ih => rw [List.map_cons]; simp [kPures, ih]; simp [kp, kPure, kPures]
  simp [kEnt, kSt, kPure, kPures, h2]
theorem out_ne {c : Cal} {ps : List Price} {e : Ent} (h : 0 ≤ room c e.2.1 e.1) : outE c ps e ≠ [] := by
  unfold outE branchesL followers upTo
  rw [List.length_map, List.length_map, List.length_range]
  intro z
  have := congrArg List.length z
  simp at this
  omega
theorem mE_step {c : Cal} {ps : List Price} {e : Ent} (h : e.1 ≤ nDays c) : mE c ps e = maxL ((outE c ps e).map fun s => (s.map (mE c ps)).sum) := by
  unfold mE
  obtain ⟨k, hk⟩ : ∃ k, (nDays c + 1 - e.1).toNat = k + 1 := ⟨(nDays c - e.1).toNat, by omega⟩
  rw [hk]
  show maxL _ = maxL _
  congr 1
  refine List.map_congr_left fun s hs => ?_
  congr 1
  refine List.map_congr_left fun x hx => ?_
  have := (out_mem hs hx).1
  rw [show (nDays c + 1 - x.1).toNat = k by omega]
section
variable {P : Program} {w : World} {K : PySem.W.Frag} {mg : Str → Option Value} {base : Heap} {f C : Addr} {fd : FuncData}
abbrev NMo : List Str := ["entries", "days", "found", "entry", "some", "branch"]
theorem scMo : FnScope NMo ["entries", "days"] (defScope sMost) := ⟨rfl, rfl, rfl, by decide +kernel, rfl, by decide +kernel, by decide +kernel⟩
def HoldsM (c : Cal) (ps : List Price) (b : Int) (d : D) : Prop := ∃ kvs, d = .dct kvs ∧ ∀ e ∈ levs c ps b c.length, valN kvs (kEnt e) = some (.int (mE c ps e))
abbrev spMo (M : MW) : Sp := spO M (fun i : Cal × List Price × Int => [.dct (entF i.1 i.2.1 i.2.2), .int (nDays i.1)]) (fun i => EntOk i.1 i.2.1 i.2.2) (fun i d => HoldsM i.1 i.2.1 i.2.2 d)
theorem ok_most (T : Txt mg) (F : Fun K "most_of" "most_of" sMost f fd) : FnOk P w K mg base CX0 1 f fd ["entries", "days"] (spMo ⟨P, w⟩) := by
  refine fn_D F scMo (fun _ => rfl) (by decide) fun cdv A outer s H E W H0 i hr hp => ?_
  obtain ⟨c, ps, b⟩ := i
  simp only at hp
  have hu : (cxOf CX0 P w K mg base NMo "most_of" (defScope sMost) f cdv A outer s H E).nox.A.units + 64 < cLine := hr.units
  have hn : nDays c = (c.length : Int) := rfl
  have hb0 := hp.b0
  have hszE := hp.size
  refine hs_setNewD 2 ef_dct0 (fun kvs e => ?_) (Nat.le_of_ble_eq_true rfl) scMo.nd
  subst e
  have ekeys : (entF c ps b).map (·.1) = (levs c ps b c.length).map kEnt := by unfold entF dctG; rw [List.map_map]; rfl
  refine hs_forN (K' := HoldsM c ps b) (Ki := fun ds => ∃ ks' : List NestedKey, ds = ks'.map kd ∧ Sorted ks'.reverse ((entF c ps b).map (·.1)))
    (fun ds j r => ∃ L : List Ent, ds = L.map entD ∧ (∀ e, e ∈ L ↔ e ∈ levs c ps b c.length) ∧ L.length = (levs c ps b c.length).length ∧ L.Pairwise (fun a b => b.1 ≤ a.1) ∧ ∃ x, r = [.val (.dct (entF c ps b)), .val (.int (nDays c)), .ownD (dctG kEnt ((L.take j).foldl addG []) fun e => .int (mE c ps e)), x, .none, .none])
    (fun _ _ _ => False) rfl PassesOwn.never (ei_sortedDR (kvs := entF c ps b) rfl hu T.sorted (ea_cons (dv 0) ea_nil) (ek_one ed_bl) (by rw [ekeys]; exact sortK_ents _) (by rw [ekeys]; exact pure_ents _)) (pg_name (i := 3) scMo.nd rfl (.inl rfl))
    (fun ds ⟨ks', e1, e2⟩ => by
      rw [ekeys] at e2
      obtain ⟨L, h1, h2, h3, h4⟩ := sorted_ents e2
      refine ⟨L, ?_, h2, h3, h4, .none, by rw [List.take_zero]; rfl⟩
      rw [e1, h1, List.map_map]
      exact List.map_congr_left fun x _ => kd_kEnt x) (fun d => [(3, d)]) (fun ds d _ _ => gd_name) ?_ (fun _ _ h => h) (fun _ _ _ _ _ h => h) ?_ (hs_never fun _ _ h => h)
  · rintro H1 ds j d r' _ hd ⟨L, rfl, hL, hLl, hLp, x, rfl⟩
    obtain ⟨e, he, rfl⟩ : ∃ e, L[j]? = some e ∧ d = entD e := by
      rw [List.getElem?_map] at hd
      cases q : L[j]? with
      | none => rw [q] at hd; cases hd
      | some e => rw [q] at hd; exact ⟨e, rfl, by simpa using hd.symm⟩
    have hem := (hL e).mp (List.mem_of_getElem? he)
    obtain ⟨t, ht, hlt⟩ := levs_mem.mp hem
    obtain ⟨i1, i2, i3⟩ := lev_mem hb0 hlt
    have hnx : dctG kEnt ((L.take (j + 1)).foldl addG []) (fun e => D.int (mE c ps e)) = putN (dctG kEnt ((L.take j).foldl addG []) fun e => D.int (mE c ps e)) (.tup (entK e)) (.int (mE c ps e)) := by
      rw [take_snoc he, List.foldl_append]
      exact (putN_same (v := fun e => D.int (mE c ps e)) kEnt_inj).symm
    have hFl : (dctG kEnt ((L.take j).foldl addG []) fun e => D.int (mE c ps e)).length ≤ 5000 := by
      rw [length_dctG]
      have := length_addG_le (ss := L.take j) (acc := ([] : List Ent))
      rw [List.length_take, List.length_nil] at this
      omega
    refine hs_if (M := fun σ H => ∃ r', (∃ L' : List Ent, L.map entD = L'.map entD ∧ (∀ e, e ∈ L' ↔ e ∈ levs c ps b c.length) ∧ L'.length = (levs c ps b c.length).length ∧ L'.Pairwise (fun a b => b.1 ≤ a.1) ∧ ∃ x, r' = [.val (.dct (entF c ps b)), .val (.int (nDays c)), .ownD (dctG kEnt ((L'.take (j + 1)).foldl addG []) fun e => .int (mE c ps e)), x, .none, .none]) ∧ At ⟨P, w⟩ W H1 r' σ H)
      (td_gt (i := e.1) (j := nDays c) (ed_ixK (i := 0) (dv 3) ed_int) (dv 1)) (fun hb => ?_) (fun hb => ?_) (hs_nil fun σ H h => h)
    · have hb : nDays c < e.1 := by simpa using hb
      refine hs_dput (K := fun d => d = .int 1) 2 hu ed_int (ov 2) (ed_is (dv 3) (kd_kEnt e).symm) rfl (depth_kEnt e) (by rw [sizeLine_eq]; omega) fun d ed => ?_
      subst ed
      have : mE c ps e = 1 := by unfold mE; rw [show (nDays c + 1 - e.1).toNat = 0 by omega]; rfl
      rw [this] at hnx
      exact hs_nil fun σ H h => ⟨_, ⟨L, rfl, hL, hLl, hLp, _, by rw [hnx]; rfl⟩, h⟩
    · have hb : ¬ nDays c < e.1 := by simpa using hb
      have hrm := hp.tab.rm t (by omega) _ i2
      rw [← i1] at hrm
      have hol := out_len (ps := ps) hp.tab.ok (hp.tab.bd t (by omega) _ i2) (e := e) (by omega) (by omega)
      have hval : valN (entF c ps b) (.tup (entK e)) = some (.lst ((outE c ps e).map fun s => .lst (s.map entD))) := by
        show valN _ (kEnt e) = _
        unfold entF
        rw [valN_dctG kEnt_inj hem, if_pos (by omega)]
      have hin : ∀ s ∈ outE c ps e, ∀ x ∈ s, x ∈ (L.take j).foldl addG [] := fun s hs x hx => by
        refine mem_addG.mpr (.inr ?_)
        obtain ⟨j1, j2, j3⟩ := out_mem hs hx
        have hxl : x ∈ levs c ps b c.length := by
          refine levs_mem.mpr ⟨t + 1, by omega, mem_addG.mpr (.inr (List.mem_flatMap.mpr ⟨e, hlt, List.mem_flatten.mpr ⟨s, hs, hx⟩⟩))⟩
        have hxL := (hL x).mpr hxl
        obtain ⟨k, hk⟩ := List.getElem?_of_mem hxL
        rcases Nat.lt_or_ge k j with q | q
        · exact List.mem_of_getElem? (i := k) (by rw [List.getElem?_take, if_pos q]; exact hk)
        · exfalso
          rcases Nat.lt_or_ge j k with q2 | q2
          · obtain ⟨g1, e1⟩ := List.getElem?_eq_some_iff.mp he
            obtain ⟨g2, e2⟩ := List.getElem?_eq_some_iff.mp hk
            have := List.pairwise_iff_getElem.mp hLp j k g1 g2 q2
            rw [e1, e2] at this
            omega
          · have : k = j := by omega
            subst this
            rw [he] at hk
            cases hk
            omega
      have hmx : (outE c ps e).map (fun s => (s.map (mE c ps)).sum) ≠ [] := fun z => out_ne (ps := ps) hrm (List.map_eq_nil_iff.mp z)
      refine hs_dputV (n := mE c ps e) 2 hu ?_ (ov 2) (ed_is (dv 3) (kd_kEnt e).symm) rfl (depth_kEnt e) (by rw [sizeLine_eq]; omega) ?_
      · rw [mE_step (by omega)]
        refine ed_callBN (Ka := fun ds => ds = [.lst (((outE c ps e).map fun s => (s.map (mE c ps)).sum).map D.int)]) (cr_max rfl) (fun ds e => by rw [e]; exact c1_maxL (maxL_mem hmx) fun y hy => le_maxL hy) T.max boot_max (ea_consN (K := fun d => d = .lst (((outE c ps e).map fun s => (s.map (mE c ps)).sum).map D.int)) (Kr := fun ds => ds = [])
          (ed_new (ef_lc (outE c ps e) (fun s => .lst (s.map entD)) (fun s => [(4, .lst (s.map entD))]) (fun _ => true) (fun s => .int ((s.map (mE c ps)).sum)) rfl scMo.nd (ei_list (ed_dget hu (dv 0) (ed_is (dv 3) (kd_kEnt e).symm) hval (depth_kEnt e))) (blkOk_by (own := [("some", 4)]) (by rfl))
            (fun s H C cl fp => pg_name (i := 4) scMo.nd rfl (.inl rfl)) (fun s _ => gd_name) (fun s _ q hq => by simp at hq; subst hq; simp) (fun s _ s' H C cl fp => td_tests)
            (fun s hs _ s' H C' cl fp => ed_callBN (Ka := fun ds => ds = [.lst ((s.map (mE c ps)).map D.int)]) (cr_sum rfl) (fun ds e => by rw [e]; exact c1_sum) T.sum boot_sum (ea_consN (K := fun d => d = .lst ((s.map (mE c ps)).map D.int)) (Kr := fun ds => ds = [])
              (ed_new (ef_lc s entD (fun x => [(5, entD x)]) (fun _ => true) (fun x => .int (mE c ps x)) rfl scMo.nd (ei_list (dv 4)) (blkOk_by (own := [("branch", 5)]) (by rfl))
                (fun s H C cl fp => pg_name (i := 5) scMo.nd rfl (.inl rfl)) (fun x _ => gd_name) (fun x _ q hq => by simp at hq; subst hq; simp) (fun x _ s' H C cl fp => td_tests)
                (fun x hx _ s2 H2 C2 cl2 fp2 => ed_dget hu (dv 2) (ed_is (dv 5) (kd_kEnt x).symm) (valN_dctG kEnt_inj (hin s hs x hx)) (depth_kEnt x)) (by have := hol.2 s hs; rw [sizeLine_eq]; omega)) fun ds e => by
                  rw [e, List.filter_eq_self.mpr fun _ _ => rfl, List.map_map]; rfl) ea_nil (fun d ds e1 e2 => by rw [e1, e2])))
            (by have := hol.1; rw [sizeLine_eq]; omega)) fun ds e => by rw [e, List.filter_eq_self.mpr fun _ _ => rfl, List.map_map]; rfl) ea_nil (fun d ds e1 e2 => by rw [e1, e2]))
      · exact hs_nil fun σ H h => ⟨_, ⟨L, rfl, hL, hLl, hLp, _, by rw [hnx]; rfl⟩, h⟩
  · rintro ds r' _ ⟨L, rfl, hL, hLl, hLp, x, rfl⟩
    rw [List.length_map, List.take_length]
    exact hs_frzD 2 rfl (hs_ret (K := fun d => d = .dct (dctG kEnt (L.foldl addG []) fun e => .int (mE c ps e))) (dv 2) fun d e => ⟨_, e, fun x hx => valN_dctG kEnt_inj (mem_addG.mpr (.inr ((hL x).mpr hx)))⟩)
end
end BR

set_option Elab.async false
set_option linter.all false
set_option maxRecDepth 100000
set_option maxHeartbeats 1000000
/-! W11: require_budget, levels_within. -/
namespace BR
open PySem L2 PySem.Spec PyProof.Rows PD
section
variable {X : Cx} {r : List (Option D)} {a b : Expr} {pos : Pos} {Ka : D → Prop}
theorem ed_dgetN {ks : List NestedKey} {d : D} (hu : X.A.units + 64 < cLine) (ha : PE X a (tN (pw X) r Ka)) (hb : PE X b (tD (pw X) r (kd (.tup ks)))) (h : ∀ dx, Ka dx → ∃ kvs, dx = .dct kvs ∧ valN kvs (.tup ks) = some d) (hd : (NestedKey.tup ks).depth ≤ 8) (hs : NoSl b := by intro _ _; rfl) : PE X (.Subscript a b pos) (tD (pw X) r d) :=
  (pe_dgetN hu ha hb hs).wk (tOp_N fun dx dy kx ky => by
    obtain ⟨kvs, e, hv⟩ := h dx kx
    subst e; subst ky
    exact op2_dget hv hd)
end
section
variable {P : Program} {w : World} {K : PySem.W.Frag} {mg : Str → Option Value} {base : Heap} {f C : Addr} {fd : FuncData}
theorem scReqBud : FnScope ["calendar", "prices", "budget"] ["calendar", "prices", "budget"] (defScope sReqBud) := ⟨rfl, rfl, rfl, by decide +kernel, rfl, by decide +kernel, by decide +kernel⟩
abbrev spReqBud (M : MW) (C : Addr) : Sp := spO M (fun i : Cal × List Price × Int => [calD i.1, pricesD i.2.1, .int i.2.2]) (fun i => CalIn i.1 ∧ TabOk i.1 ∧ i.1.length = i.2.1.length ∧ PrOk i.2.1 ∧ 0 ≤ i.2.2) (fun i d => d = tabD C i.1)
theorem ok_reqBud (c1 : PD.Cal P w K mg base 4 "require_calendar" ["calendar"] (spReqCal ⟨P, w⟩)) (c2 : PD.Cal P w K mg base 4 "require_prices" ["calendar", "prices"] (spReqPrices ⟨P, w⟩)) (c3 : PD.Cal P w K mg base 2 "is_at_least" ["value", "low"] (spAtLeast ⟨P, w⟩)) (tm : TMk P w K mg base C)
    (F : Fun K "require_budget" "require_budget" sReqBud f fd) : FnOk P w K mg base CX0 5 f fd ["calendar", "prices", "budget"] (spReqBud ⟨P, w⟩ C) := by
  refine fn_D F scReqBud (fun _ => rfl) (by decide) fun cdv A outer s H E W H0 i hr hp => ?_
  obtain ⟨c, ps, b⟩ := i
  obtain ⟨h1, h2, h3, h4, h5⟩ := hp
  simp only at h1 h2 h3 h4 h5
  refine hs_drop (K := fun _ => True) (ed_call c1 c hr (ea_cons (dv 0) ea_nil) h1 fun _ _ => trivial) ?_
  refine hs_drop (K := fun _ => True) (ed_call c2 (c, ps) hr (ea_cons (dv 0) (ea_cons (dv 1) ea_nil)) ⟨h3, h4⟩ fun _ _ => trivial) ?_
  refine hs_ifF (tt_is (td_not (td_val (ed_call c3 (b, 0) (hr.mono (by decide)) (ea_cons (dv 2) (ea_cons ed_int ea_nil)) trivial fun _ h => h))) (by simp [h5])) ?_
  exact hs_retD (ed_table tm hr (ea_cons (dv 0) ea_nil) h2) rfl
theorem scLevW : FnScope ["calendar", "prices", "budget", "table"] ["calendar", "prices", "budget"] (defScope sLevW) := ⟨rfl, rfl, rfl, by decide +kernel, rfl, by decide +kernel, by decide +kernel⟩
/-- how many levels within a budget -/
def levW (c : Cal) (ps : List Price) (b : Int) : Int := mostK c ps c.length (1, [], b)
structure LevIn (c : Cal) (ps : List Price) (b : Int) : Prop where
  cal : CalIn c
  pr : PrOk ps
  ent : EntOk c ps b
abbrev spLevW (M : MW) : Sp := spO M (fun i : Cal × List Price × Int => [calD i.1, pricesD i.2.1, .int i.2.2]) (fun i => LevIn i.1 i.2.1 i.2.2) (fun i d => d = .int (levW i.1 i.2.1 i.2.2))
theorem ok_levW (TC : TabC K C) (c1 : PD.Cal P w K mg base 5 "require_budget" ["calendar", "prices", "budget"] (spReqBud ⟨P, w⟩ C)) (c2 : PD.Cal P w K mg base 4 "entries_of" ["table", "prices", "budget"] (spEn ⟨P, w⟩ C)) (c3 : PD.Cal P w K mg base 1 "most_of" ["entries", "days"] (spMo ⟨P, w⟩))
    (F : Fun K "levels_within" "levels_within" sLevW f fd) : FnOk P w K mg base CX0 6 f fd ["calendar", "prices", "budget"] (spLevW ⟨P, w⟩) := by
  refine fn_D F scLevW (fun _ => rfl) (by decide) fun cdv A outer s H E W H0 i hr hp => ?_
  obtain ⟨c, ps, b⟩ := i
  obtain ⟨h1, h2, h3⟩ := hp
  simp only at h1 h2 h3
  have hu : (cxOf CX0 P w K mg base ["calendar", "prices", "budget", "table"] "levels_within" (defScope sLevW) f cdv A outer s H E).nox.A.units + 64 < cLine := hr.units
  refine hs_setD 3 (d := tabD C c) (ed_call c1 (c, ps, b) hr (ea_cons (dv 0) (ea_cons (dv 1) (ea_cons (dv 2) ea_nil))) ⟨h1, h3.tab, h3.len.symm, h2, h3.b0⟩ fun _ h => h) ?_ scLevW.nd
  obtain ⟨ks0, hks0⟩ : ∃ ks, ks = entK (1, [], b) := ⟨_, rfl⟩
  have h0 : D.ktp [.int 1, .ktp [], .int b] = kd (.tup ks0) := by rw [hks0]; exact (kd_kEnt (1, [], b)).symm
  have hd0 : (NestedKey.tup ks0).depth ≤ 8 := by rw [hks0]; exact depth_kEnt (1, [], b)
  refine hs_retD (ed_dgetN (Ka := HoldsM c ps b) (ks := ks0) (d := .int (levW c ps b)) hu (ed_call c3 (c, ps, b) (hr.mono (by decide)) (ea_cons (ed_call c2 (c, ps, b) (hr.mono (by decide)) (ea_cons (dv 3) (ea_cons (dv 1) (ea_cons (dv 2) ea_nil))) h3 fun _ h => h) (ea_cons (ed_fld (dv 3) TC.cls TC.days rfl) ea_nil)) h3 fun _ h => h)
    (ed_is (ed_ktp (ea_cons ed_int (ea_cons (ed_ktp (ds := []) ea_nil) (ea_cons (dv 2) ea_nil)))) h0) (fun dx ⟨kvs, e, hv⟩ => ⟨kvs, e, ?_⟩) hd0) rfl
  rw [hks0]
  have := hv (1, [], b) (levs_mem.mpr ⟨0, Nat.zero_le _, by simp [lev]⟩)
  rw [show NestedKey.tup (entK (1, [], b)) = kEnt (1, [], b) from rfl, this]
  show some (D.int (mostK c ps (nDays c + 1 - 1).toNat (1, [], b))) = _
  rw [show (nDays c + 1 - 1).toNat = c.length by unfold nDays; omega]
  rfl
end
end BR

set_option Elab.async false
set_option linter.all false
set_option maxRecDepth 100000
set_option maxHeartbeats 1000000
/-! W12: reached. -/
namespace BR
open PySem L2 PySem.Spec PyProof.Rows PD
abbrev sReached : Stmt := top 33
abbrev Tri := Int × Int × Int
def kTri (a : Tri) : NestedKey := .tup [.num a.1, .num a.2.1, .num a.2.2]
abbrev triD (a : Tri) : D := .ktp [.int a.1, .int a.2.1, .int a.2.2]
theorem kd_kTri (a : Tri) : kd (kTri a) = triD a := rfl
theorem kTri_inj {a b : Tri} (h : kTri a = kTri b) : a = b := by
  unfold kTri at h
  injection h with h
  injection h with h1 h
  injection h with h2 h
  injection h with h3 _
  injection h1 with h1
  injection h2 with h2
  injection h3 with h3
  exact Prod.ext h1 (Prod.ext h2 h3)
theorem kLt_kTri {a b : Tri} (h : kLt (kTri b) (kTri a) = false) : a.1 ≤ b.1 := by
  rcases Int.lt_or_le b.1 a.1 with q | q
  · unfold kTri at h
    simp [kLt, kLts, q] at h
  · exact q
theorem sorted_tris {S : List Tri} {ks : List NestedKey} (h : Sorted ks (S.map kTri)) : ∃ R : List Tri, ks = R.map kTri ∧ R.Perm S ∧ R.Pairwise fun a b => a.1 ≤ b.1 := by
  obtain ⟨hp, hs⟩ := h
  have : ∀ (ks : List NestedKey), (∀ k ∈ ks, ∃ p, k = kTri p) → ∃ m : List Tri, ks = m.map kTri := fun ks => by
    induction ks with
    | nil => intro _; exact ⟨[], rfl⟩
    | cons k ks ih =>
      intro h
      obtain ⟨p, e⟩ := h k List.mem_cons_self
      obtain ⟨m, e2⟩ := ih fun x hx => h x (List.mem_cons_of_mem _ hx)
      exact ⟨p :: m, by rw [e, e2]; rfl⟩
  obtain ⟨R, eR⟩ := this ks fun k hk => by
    obtain ⟨p, _, e⟩ := List.mem_map.mp (hp.mem_iff.mp hk)
    exact ⟨p, e.symm⟩
  subst eR
  refine ⟨R, rfl, ?_, ?_⟩
  · have := hp.map (fun k => match k with | .tup [.num a, .num b, .num c] => (a, b, c) | _ => (0, 0, 0))
    rw [List.map_map, List.map_map] at this
    have e : ∀ x : List Tri, x.map ((fun k => match k with | NestedKey.tup [NestedKey.num a, NestedKey.num b, NestedKey.num c] => (a, b, c) | _ => ((0 : Int), (0 : Int), (0 : Int))) ∘ kTri) = x := fun x => by
      conv => rhs; rw [← List.map_id x]
      exact List.map_congr_left fun p _ => rfl
    rw [e, e] at this
    exact this
  · rw [List.pairwise_map] at hs
    exact hs.imp fun {a b} hab => kLt_kTri hab
theorem sortK_tris (S : List Tri) : SortK (S.map kTri) where
  hd := fun k hk => let ⟨p, _, e⟩ := List.mem_map.mp hk; ⟨p.1, [.num p.2.1, .num p.2.2], e.symm⟩
  dp := fun k hk => by
    obtain ⟨p, _, e⟩ := List.mem_map.mp hk
    rw [← e]
    simp [kTri, NestedKey.depth, NestedKey.depthAll]
  cm := fun k hk k' hk' => by
    obtain ⟨p, _, e⟩ := List.mem_map.mp hk
    obtain ⟨q, _, e'⟩ := List.mem_map.mp hk'
    rw [← e, ← e']
    simp [kTri, kCmp, kCmps]
theorem pure_tris (S : List Tri) : ∀ k ∈ S.map kTri, kPure k = true := fun k hk => by
  obtain ⟨p, _, e⟩ := List.mem_map.mp hk
  rw [← e]
  simp [kTri, kPure, kPures]
theorem enumD_ints (L : List Int) : enumD 0 (L.map D.int) = (L.mapIdx fun i x => ((i : Int), x)).map fun p => D.tup [.int p.1, .int p.2] := by
  unfold enumD
  apply List.ext_getElem?
  intro i
  simp only [List.getElem?_map, List.getElem?_mapIdx]
  cases L[i]? with
  | none => rfl
  | some x => simp
/-- the costs of the levels behind one number -/
def rawN (pr : Price) (used number : Int) (L : List Int) : List Tri := L.mapIdx fun i x => (paidI pr used + pr.2.2 * number + x, number, (i : Int))
def rawR (pr : Price) (fs : List State) (lc : State → List Int) (used : Int) : List Tri := (upN (used + 1)).flatMap fun number => rawN pr used number (lc (fs.getD number.toNat []))
structure ReIn (kvs : List (NestedKey × D)) (lc : State → List Int) (fs : List State) (used : Int) : Prop where
  u0 : 0 ≤ used
  u1 : used < fs.length
  fl : fs.length ≤ 13
  val : ∀ n : Int, 0 ≤ n → n ≤ used → valN kvs (kSt (fs.getD n.toNat [])) = some (intsD (lc (fs.getD n.toNat [])))
  len : ∀ n : Int, 0 ≤ n → n ≤ used → (lc (fs.getD n.toNat [])).length ≤ 200
theorem rawN_len {pr : Price} {used number : Int} {L : List Int} : (rawN pr used number L).length = L.length := by unfold rawN; rw [List.length_mapIdx]
theorem raw_len {pr : Price} {fs : List State} {lc : State → List Int} {used : Int} : ∀ {l : List Int}, (∀ n ∈ l, (lc (fs.getD n.toNat [])).length ≤ 200) → (l.flatMap fun number => rawN pr used number (lc (fs.getD number.toNat []))).length ≤ 200 * l.length
  | [], _ => by simp
  | a :: l, h => by
    have h1 := h a List.mem_cons_self
    have h2 := raw_len (pr := pr) (used := used) (l := l) fun y hy => h y (List.mem_cons_of_mem _ hy)
    rw [List.flatMap_cons, List.length_append, List.length_cons, rawN_len]
    omega
section
variable {P : Program} {w : World} {K : PySem.W.Frag} {mg : Str → Option Value} {base : Heap} {f C : Addr} {fd : FuncData}
abbrev NRe : List Str := ["later", "price", "following", "used", "found", "number", "first", "place", "cost"]
theorem scRe : FnScope NRe ["later", "price", "following", "used"] (defScope sReached) := ⟨rfl, rfl, rfl, by decide +kernel, rfl, by decide +kernel, by decide +kernel⟩
structure ReA where
  kvs : List (NestedKey × D)
  lc : State → List Int
  pr : Price
  fs : List State
  used : Int
def IsRe (i : ReA) (R : List Tri) : Prop := R.Perm (rawR i.pr i.fs i.lc i.used) ∧ R.Pairwise fun a b => a.1 ≤ b.1
abbrev spRe (M : MW) : Sp := spO M (fun i : ReA => [.dct i.kvs, priceD i.pr, .lst (i.fs.map stD), .int i.used]) (fun i => ReIn i.kvs i.lc i.fs i.used) (fun i d => ∃ R, d = .lst (R.map triD) ∧ IsRe i R)
theorem ok_reached (T : Txt mg) (c2 : PD.Cal P w K mg base 1 "paid" ["price", "used"] (spPaid ⟨P, w⟩)) (F : Fun K "reached" "reached" sReached f fd) :
    FnOk P w K mg base CX0 2 f fd ["later", "price", "following", "used"] (spRe ⟨P, w⟩) := by
  refine fn_D F scRe (fun _ => rfl) (by decide) fun cdv A outer s H E W H0 i hr hp => ?_
  obtain ⟨kvs, lc, pr, fs, used⟩ := i
  obtain ⟨u0, u1, fl, val, len⟩ := hp
  simp only at u0 u1 fl val len
  have hu : (cxOf CX0 P w K mg base NRe "reached" (defScope sReached) f cdv A outer s H E).nox.A.units + 64 < cLine := hr.units
  refine hs_setNew 4 (ef_lst ea_nil) (fun ds e => ?_) (Nat.le_of_ble_eq_true rfl) scRe.nd
  subst e
  refine hs_for (K' := fun d => ∃ R, d = .lst (R.map triD) ∧ IsRe ⟨kvs, lc, pr, fs, used⟩ R) (fun j r => ∃ x y, r = [.val (.dct kvs), .val (priceD pr), .val (.lst (fs.map stD)), .val (.int used), .own (((upN (j : Nat)).flatMap fun number => rawN pr used number (lc (fs.getD number.toNat []))).map triD), x, y, .none, .none])
    rfl PassesOwn.never (ei_range1 (n := used + 1) T.range (ea_cons (ed_add (dv 3) ed_int) ea_nil) (by omega) (by omega)) (pg_name (i := 5) scRe.nd rfl (.inr rfl)) ⟨_, _, rfl⟩ (fun d => [(5, d)]) (fun d _ => gd_name) ?_ (fun _ _ h => h) ?_
  · rintro H1 j d r' hd ⟨x, y, rfl⟩
    obtain ⟨hj, rfl⟩ := range_at hd
    have e0 : (0 : Int) + (j : Nat) = (j : Nat) := by omega
    rw [e0, show ((j + 1 : Nat) : Int) = (j : Int) + 1 by omega, upN_succ (by omega), List.flatMap_append]
    have hlen := raw_len (pr := pr) (fs := fs) (lc := lc) (used := used) (l := upN (j : Nat)) fun n hn => len n (upN_mem.mp hn).1 (by have := (upN_mem.mp hn).2; omega)
    rw [upN_len] at hlen
    generalize (upN (j : Nat)).flatMap (fun number => rawN pr used number (lc (fs.getD number.toNat []))) = F0 at hlen
    rw [show ([(j : Int)].flatMap fun number => rawN pr used number (lc (fs.getD number.toNat []))) = rawN pr used j (lc (fs.getD j [])) by simp]
    have hv := val j (by omega) (by omega)
    have hl := len j (by omega) (by omega)
    rw [Int.toNat_natCast] at hv hl
    generalize hLL : lc (fs.getD j []) = LL at hv hl
    refine hs_setD 6 (d := .int (paidI pr used + pr.2.2 * (j : Nat))) (ed_add (ed_call c2 (pr, used) hr (ea_cons (dv 1) (ea_cons (dv 3) ea_nil)) ⟨u0, by show used ≤ 1000; omega⟩ fun _ h => h) (ed_mul (ed_ixT (dv 1) ed_int) (dv 5) (.inr (by omega)))) ?_ scRe.nd
    refine hs_extend (K := fun d => d = .lst ((rawN pr used (j : Nat) LL).map triD)) (Ks := fun es => es = (rawN pr used (j : Nat) LL).map triD) 4 (pe_bm PySem.F.plainAttrs_list PySem.F.slot_list_extend PySem.F.type_list_extend mt_extend (ov 4) (pa_cons
      (ed_new (ef_lc (LL.mapIdx fun i x => ((i : Int), x)) (fun p => D.tup [.int p.1, .int p.2]) (fun p => [(7, .int p.1), (8, .int p.2)]) (fun _ => true) (fun p => triD (paidI pr used + pr.2.2 * (j : Nat) + p.2, (j : Nat), p.1)) rfl scRe.nd
        (by rw [← enumD_ints]; exact ei_en (b := false) (ds := LL.map D.int) T.enumerate (ea_cons (ed_dget hu (dv 0) (ed_is (ed_ixL (dv 2) (dv 5) (at_map (z := []) (by omega) (by omega))) (kd_kSt _).symm) hv (depth_kSt _)) ea_nil) rfl)
        (blkOk_by (own := [("place", 7), ("cost", 8)]) (by rfl)) (fun s H C cl fp => pg_tup (n := 2) rfl (pgs_cons (pg_name (i := 7) scRe.nd rfl (.inl rfl)) (pgs_cons (pg_name (i := 8) scRe.nd rfl (.inl rfl)) pgs_nil))) (fun p _ => gd_tup (gd_cons gd_name (gd_cons gd_name gd_nil))) (fun p _ q hq => by simp at hq; rcases hq with e | e <;> subst e <;> simp)
        (fun p _ s H C cl fp => td_tests) (fun p _ _ s H C cl fp => ed_ktp (ea_cons (ed_add (dv 6) (dv 8)) (ea_cons (dv 5) (ea_cons (dv 7) ea_nil)))) (by rw [List.length_mapIdx, sizeLine_eq]; omega)) fun ds e => by
          rw [e, List.filter_eq_self.mpr fun _ _ => rfl]
          unfold rawN
          congr 1
          apply List.ext_getElem?
          intro i
          simp only [List.getElem?_map, List.getElem?_mapIdx]
          cases LL[i]? <;> rfl) pa_nil)) rfl (fun d e => ⟨_, e, by rw [List.length_map, List.length_map, rawN_len, sizeLine_eq]; omega, rfl⟩) ?_
    rintro es rfl
    exact hs_nil fun σ H h => ⟨_, ⟨_, _, by rw [List.map_append]; rfl⟩, h⟩
  · rintro r' ⟨x, y, rfl⟩
    rw [List.length_map, List.length_range, show ((used + 1).toNat : Int) = used + 1 by omega]
    refine hs_frz 4 rfl (hs_ret (K := fun d => ∃ R, d = .lst (R.map triD) ∧ IsRe ⟨kvs, lc, pr, fs, used⟩ R) (ed_new (ef_sorted (ks := (rawR pr fs lc used).map kTri) hu T.sorted (ea_cons (ed_is (dv 4) (by rw [List.map_map]; rfl)) ea_nil) (sortK_tris _) (pure_tris _)) fun ds ⟨ks', e, hs⟩ => ?_) fun d h => h)
    obtain ⟨R, eR, h1, h2⟩ := sorted_tris hs
    exact ⟨R, by rw [e, eR, List.map_map]; rfl, h1, h2⟩
end
end BR

set_option Elab.async false
set_option linter.all false
set_option maxRecDepth 100000
set_option maxHeartbeats 1000000
/-! W13: least_costs. -/
namespace BR
open PySem L2 PySem.Spec PyProof.Rows PD
abbrev sLeast : Stmt := top 34
section
variable {X : Cx} {M : MW} {r : List (Option D)} {e : Expr} {pos : Pos} {Ka : D → Prop} {Ks : List D → Prop}
theorem ed_sliceLN {lo hi : Option Expr} {l h : Option Int} {p2 : Pos} (ha : PE X e (tN M r Ka)) (k : ∀ d, Ka d → ∃ ds, d = .lst ds ∧ Ks (cutD ds l h)) (hl : PO X lo (tPN M r l)) (hh : PO X hi (tPN M r h)) : PE X (.Subscript e (.Slice lo hi none p2) pos) (tF M r Ks) :=
  (pe_slice sl_list ha hl hh).wk fun σ H Q ⟨W, hs, ok, q⟩ => ⟨W, hs, ok, fun v H1 dx kx e1 rv => ⟨W, hs.ext ok e1, ok.ext e1, fun H2 e2 => ⟨W, (hs.ext ok e1).ext (ok.ext e1) e2, (ok.ext e1).ext e2, fun H3 e3 => by
    obtain ⟨ds, ed, ks⟩ := k dx kx
    subst ed
    obtain ⟨a, us, ev, n, h1, h2⟩ := (rv.ext (ok.ext e1) e2).ext ((ok.ext e1).ext e2) e3
    have e123 := (e1.trans e2).trans e3
    exact ⟨a, us, ev, .of h1, fun p hp => q p _ _ _ ks (e123.free ok hp) (e123.trans (.new hp)) upd_same (RepL.car ((Car.new hp).trans (Car.upd (W := W.add p) (.inr rfl))) _ _ h2.cut)⟩⟩⟩⟩
end
theorem cut_take {ds : List D} {n : Nat} : PD.cutD ds none (some (n : Int)) = ds.take n := by
  unfold PD.cutD
  rw [HT.sIx_nat]
  show ((ds.drop 0).take (min n ds.length - 0)) = _
  rw [List.drop_zero, Nat.sub_zero]
  by_cases q : n ≤ ds.length
  · rw [Nat.min_eq_left q]
  · rw [Nat.min_eq_right (by omega), List.take_length, List.take_of_length_le (by omega)]
theorem cut_drop {ds : List D} {n : Nat} : PD.cutD ds (some (n : Int)) none = ds.drop n := by
  unfold PD.cutD
  rw [HT.sIx_nat]
  show (ds.drop (min n ds.length)).take (ds.length - min n ds.length) = _
  rw [List.take_of_length_le (by simp)]
  by_cases q : n ≤ ds.length
  · rw [Nat.min_eq_left q]
  · rw [Nat.min_eq_right (by omega), List.drop_length, List.drop_eq_nil_of_le (by omega)]
def minI (a b : Int) : Int := if b < a then b else a
/-- the costs of the levels with so many pieces used, ascending -/
def someC (pr : Price) (fs : List State) (lc : State → List Int) (lv : Nat) (used : Int) : List Int := (((rawR pr fs lc used).map (·.1)).mergeSort fun a b => decide (a ≤ b)).take lv
def stepC (costs some : List Int) : List Int := List.zipWith minI costs some ++ costs.drop (List.zipWith minI costs some).length ++ some.drop (List.zipWith minI costs some).length
/-- the costs with fewer than n pieces used -/
def costsAt (pr : Price) (fs : List State) (lc : State → List Int) (lv : Nat) (n : Int) : List Int := (upN n).foldl (fun costs used => stepC costs (someC pr fs lc lv used)) []
theorem costsAt_succ {pr : Price} {fs : List State} {lc : State → List Int} {lv : Nat} {n : Int} (h : 0 ≤ n) : costsAt pr fs lc lv (n + 1) = stepC (costsAt pr fs lc lv n) (someC pr fs lc lv n) := by
  unfold costsAt
  rw [upN_succ h, List.foldl_append]; rfl
def lcK (c : Cal) (ps : List Price) (lv : Nat) : Nat → State → List Int
  | 0, _ => [0]
  | k + 1, s => costsAt (atP ps (nDays c - (k : Nat))) (followers c s (nDays c - (k : Nat))) (lcK c ps lv k) lv (followers c s (nDays c - (k : Nat))).length
def lcD (c : Cal) (ps : List Price) (lv : Nat) (k : Nat) : List (NestedKey × D) := dctS (sts c (c.length - k)) fun s => intsD (lcK c ps lv k s)
def lcL (c : Cal) (ps : List Price) (lv : Nat) (k : Nat) : List D := (List.range (k + 1)).map fun j => D.dct (lcD c ps lv j)
theorem someC_len {pr : Price} {fs : List State} {lc : State → List Int} {lv : Nat} {used : Int} : (someC pr fs lc lv used).length ≤ lv := by
  unfold someC
  rw [List.length_take]; omega
theorem stepC_len {costs some : List Int} {lv : Nat} (h1 : costs.length ≤ lv) (h2 : some.length ≤ lv) : (stepC costs some).length ≤ lv := by
  unfold stepC
  simp only [List.length_append, List.length_drop, List.length_zipWith]
  omega
theorem fold_len {lv : Nat} {g : Int → List Int} (hg : ∀ u, (g u).length ≤ lv) : ∀ {us : List Int} {costs : List Int}, costs.length ≤ lv → (us.foldl (fun costs used => stepC costs (g used)) costs).length ≤ lv
  | [], costs, h => h
  | u :: us, costs, h => fold_len hg (us := us) (stepC_len h (hg u))
theorem costsAt_len {pr : Price} {fs : List State} {lc : State → List Int} {lv : Nat} {n : Int} : (costsAt pr fs lc lv n).length ≤ lv := fold_len (fun u => someC_len) (Nat.zero_le _)
theorem lcK_len {c : Cal} {ps : List Price} {lv : Nat} (hlv : 1 ≤ lv) : ∀ {k : Nat} {s : State}, (lcK c ps lv k s).length ≤ lv
  | 0, s => hlv
  | k + 1, s => by
    rw [lcK]
    exact costsAt_len
/-- the ordered arrangement's costs -/
theorem re_costs {i : ReA} {R : List Tri} (h : IsRe i R) (lv : Nat) : (R.take lv).map (·.1) = someC i.pr i.fs i.lc lv i.used := by
  obtain ⟨h1, h2⟩ := h
  unfold someC
  rw [List.map_take]
  congr 1
  have hs : (R.map (·.1)).Pairwise fun a b => decide (a ≤ b) = true := by
    rw [List.pairwise_map]
    exact h2.imp fun {a b} h => decide_eq_true h
  have ht : (((rawR i.pr i.fs i.lc i.used).map (·.1)).mergeSort fun a b => decide (a ≤ b)).Pairwise fun a b => decide (a ≤ b) = true :=
    List.pairwise_mergeSort (fun a b c h1 h2 => by simp only [decide_eq_true_eq] at *; omega) (fun a b => by simp only [Bool.or_eq_true, decide_eq_true_eq]; omega) _
  exact List.Perm.eq_of_pairwise (le := fun a b => decide (a ≤ b) = true) (fun a b _ _ h1 h2 => by simp only [decide_eq_true_eq] at h1 h2; omega) hs ht ((h1.map _).trans (List.mergeSort_perm _ _).symm)
theorem noLs_tris (R : List Tri) : noLs (R.map triD) = true := by
  rw [noLs_all, List.all_map]
  exact List.all_eq_true.mpr fun x _ => by simp [noL, noLs]
theorem zip_enc (costs : List Int) (R : List Tri) : zipD (costs.map D.int) (R.map triD) = (costs.zip R).map fun p => D.tup [.int p.1, triD p.2] := by
  unfold zipD
  rw [List.zip_map, List.map_map]
  rfl
section
variable {P : Program} {w : World} {K : PySem.W.Frag} {mg : Str → Option Value} {base : Heap} {f C : Addr} {fd : FuncData}
abbrev NLc : List Str := ["table", "prices", "levels", "found", "day", "here", "state", "following", "costs", "used", "some", "kept", "cost", "entry"]
theorem scLc : FnScope NLc ["table", "prices", "levels"] (defScope sLeast) := ⟨rfl, rfl, rfl, by decide +kernel, rfl, by decide +kernel, by decide +kernel⟩
structure LcIn (c : Cal) (ps : List Price) (lv : Nat) : Prop where
  tab : TabOk c
  len : ps.length = c.length
  l1 : 1 ≤ lv
  l2 : lv ≤ 200
abbrev spLc (M : MW) (C : Addr) : Sp := spO M (fun i : Cal × List Price × Nat => [tabD C i.1, pricesD i.2.1, .int (i.2.2 : Nat)]) (fun i => LcIn i.1 i.2.1 i.2.2) (fun i d => d = .lst (lcL i.1 i.2.1 i.2.2 i.1.length).reverse)
theorem lcL_last (c : Cal) (ps : List Price) (lv k : Nat) : atI (lcL c ps lv k) (-1) = some (.dct (lcD c ps lv k)) := atI_back (by unfold lcL; simp [List.range_succ])
theorem lcL_next (c : Cal) (ps : List Price) (lv k : Nat) : lcL c ps lv k ++ [.dct (lcD c ps lv (k + 1))] = lcL c ps lv (k + 1) := by
  unfold lcL
  rw [List.range_succ (n := k + 1), List.map_append]
  rfl
theorem lcL_len (c : Cal) (ps : List Price) (lv k : Nat) : (lcL c ps lv k).length = k + 1 := by unfold lcL; simp
theorem stepsL_at {c : Cal} {n d : Nat} (h : d < n) : atI (stepsL c n) (d : Int) = some (.dct (stepK c d)) := by
  unfold atI ixN
  rw [stepsL_len, if_pos (by omega), if_pos (by omega)]
  show (stepsL c n)[(d : Int).toNat]? = _
  unfold stepsL
  rw [Int.toNat_natCast, List.getElem?_append_left (by simpa using h), List.getElem?_map, List.getElem?_range h]
  rfl
theorem ok_least (T : Txt mg) (TC : TabC K C) (c1 : MCal P w K mg base C 2 "followers" ["self", "state", "day"] (spFollowers ⟨P, w⟩ C)) (c2 : PD.Cal P w K mg base 2 "reached" ["later", "price", "following", "used"] (spRe ⟨P, w⟩)) (F : Fun K "least_costs" "least_costs" sLeast f fd) :
    FnOk P w K mg base CX0 3 f fd ["table", "prices", "levels"] (spLc ⟨P, w⟩ C) := by
  refine fn_D F scLc (fun _ => rfl) (by decide) fun cdv A outer s H E W H0 i hr hp => ?_
  obtain ⟨c, ps, lv⟩ := i
  obtain ⟨tab, hpl, l1, l2⟩ := hp
  simp only at tab hpl l1 l2
  have hu : (cxOf CX0 P w K mg base NLc "least_costs" (defScope sLeast) f cdv A outer s H E).nox.A.units + 64 < cLine := hr.units
  have hn : nDays c = (c.length : Int) := rfl
  have hcl := tab.ok.len
  have hstl : ∀ d, d ≤ c.length → (sts c d).length < sizeLine := fun d hd => by
    have := tab.size d hd
    rw [sizeLine_eq]
    omega
  have hlen : ∀ k s, (lcK c ps lv k s).length ≤ 200 := fun k s => Nat.le_trans (lcK_len l1) l2
  have ek : ∀ d, (stepK c d).map (fun q => kd q.1) = (sts c d).map fun st => kd (kSt st) := fun d => by unfold stepK dctS; rw [List.map_map]; rfl
  have el : (lastK c c.length).map (fun q => kd q.1) = (sts c c.length).map fun st => kd (kSt st) := by unfold lastK dctS; rw [List.map_map]; rfl
  have h0 : [D.dct (dctS (sts c c.length) fun _ => .lst [.int 0])] = lcL c ps lv 0 := by
    unfold lcL lcD
    simp [lcK]
    rfl
  refine hs_setNew 3 (Ks := fun ds => ds = lcL c ps lv 0) (ef_lstN (Ks := fun ds => ds = lcL c ps lv 0) (ea_consN (K := fun d => d = .dct (dctS (sts c c.length) fun _ => .lst [.int 0])) (Kr := fun ds => ds = []) (ed_newD (ef_dn (sts c c.length) (fun st => kd (kSt st)) (fun st => [(6, kd (kSt st))]) (fun st => st.map kp) (fun _ => .lst [.int 0]) hu rfl scLc.nd
      (by rw [← el]; exact ei_keysN (ed_ixF (ed_fld (dv 0) TC.cls TC.steps rfl) (ed_neg ed_int) (stepsL_last c c.length)))
      (blkOk_by (own := [("state", 6)]) (by rfl)) (fun s H C cl fp => pg_name (i := 6) scLc.nd rfl (.inl rfl)) (fun st _ => gd_name) (fun st _ q hq => by simp at hq; subst hq; simp) (fun st _ s H C cl fp => dv 6)
      (fun st _ s H C cl fp => ed_new (ef_lst (ea_cons ed_int ea_nil)) fun ds e => by rw [e]) (hstl _ (Nat.le_refl _)) (fun st _ => depth_kSt st)) fun kvs e => by rw [e, foldD_sts (sts_nodup c _)]) ea_nil fun d ds e1 e2 => by rw [e1, e2, h0]) fun ds e => by rw [e, lcL_len]; exact Nat.le_of_ble_eq_true rfl) (fun ds e => ?_) (Nat.le_of_ble_eq_true rfl) scLc.nd
  subst e
  refine hs_for (K' := fun d => d = .lst (lcL c ps lv c.length).reverse) (fun j r => ∃ x4 x5 x6 x7 x8 x9 x10 x11, r = [.val (tabD C c), .val (pricesD ps), .val (.int (lv : Nat)), .own (lcL c ps lv j), x4, x5, x6, x7, x8, x9, x10, x11, .none, .none])
    rfl PassesOwn.never (ei_range3 (i := nDays c) (j := 0) T.range (ea_cons (ed_fld (dv 0) TC.cls TC.days rfl) (ea_cons ed_int (ea_cons (ed_neg ed_int) ea_nil))) (by omega)) (pg_name (i := 4) scLc.nd rfl (.inl rfl)) ⟨_, _, _, _, _, _, _, _, rfl⟩ (fun d => [(4, d)]) (fun d _ => gd_name) ?_ (fun _ _ h => h) ?_
  · rintro H1 j d r' hd ⟨x4, x5, x6, x7, x8, x9, x10, x11, rfl⟩
    obtain ⟨hj, rfl⟩ : j < c.length ∧ d = .int (nDays c - (j : Nat)) := by
      rw [List.getElem?_map] at hd
      have hj : j < (nDays c - 0).toNat := by
        rcases Nat.lt_or_ge j (nDays c - 0).toNat with q | q
        · exact q
        · rw [List.getElem?_eq_none (by simpa using q)] at hd; cases hd
      rw [List.getElem?_range hj] at hd
      have hd : D.int (nDays c + (j : Nat) * (-1)) = d := by simpa using hd
      refine ⟨by omega, ?_⟩
      rw [← hd]
      congr 1
      omega
    refine hs_setNewD 5 ef_dct0 (fun kvs e => ?_) (Nat.le_of_ble_eq_true rfl) scLc.nd
    subst e
    have hdd : nDays c - (j : Nat) - 1 = ((c.length - 1 - j : Nat) : Int) := by omega
    have hd1 : ((c.length - 1 - j : Nat) : Int) + 1 = nDays c - (j : Nat) := by omega
    refine hs_for (K' := fun d => d = .lst (lcL c ps lv c.length).reverse) (ds := (sts c (c.length - 1 - j)).map fun st => kd (kSt st)) (fun i r => ∃ x6 x7 x8 x9 x10 x11, r = [.val (tabD C c), .val (pricesD ps), .val (.int (lv : Nat)), .own (lcL c ps lv j), .val (.int (nDays c - (j : Nat))), .ownD (dctS ((sts c (c.length - 1 - j)).take i) fun s => intsD (lcK c ps lv (j + 1) s)), x6, x7, x8, x9, x10, x11, .none, .none])
      rfl PassesOwn.never (by rw [← ek]; exact ei_keysN (ed_ixF (ed_fld (dv 0) TC.cls TC.steps rfl) (ed_sub (dv 4) ed_int) (by rw [hdd]; exact stepsL_at (by omega)))) (pg_name (i := 6) scLc.nd rfl (.inl rfl)) ⟨_, _, _, _, _, _, rfl⟩ (fun d => [(6, d)]) (fun d _ => gd_name) ?_ (fun _ _ h => h) ?_
    · rintro H2 i d r' hd ⟨x6, x7, x8, x9, x10, x11, rfl⟩
      obtain ⟨st, hst, rfl⟩ : ∃ st, (sts c (c.length - 1 - j))[i]? = some st ∧ d = stD st := by
        rw [List.getElem?_map] at hd
        cases q : (sts c (c.length - 1 - j))[i]? with
        | none => rw [q] at hd; cases hd
        | some st => rw [q] at hd; exact ⟨st, rfl, by rw [← kd_kSt]; simpa using hd.symm⟩
      have hsm := List.mem_of_getElem? hst
      have hsb := tab.bd (c.length - 1 - j) (by omega) st hsm
      have hfl := followers_len tab.ok hsb (day := nDays c - (j : Nat)) (by omega) (by omega)
      refine hs_parF (K1 := fun d => d = .lst ((followers c st (nDays c - (j : Nat))).map stD)) (Ks := fun ds => ds = []) 7 8 (ed_meth c1 (c, st, nDays c - (j : Nat)) TC.cls hr (ed_subF (fs' := f0 c) (dv 0) ⟨rfl, rfl, rfl, rfl, trivial⟩) (by decide) (ea_cons (dv 6) (ea_cons (dv 4) ea_nil)) rfl ⟨tab.ok, hsb, by show (1 : Int) ≤ nDays c - (j : Nat); omega, by show nDays c - (j : Nat) ≤ nDays c; omega⟩ fun _ h => h) (ef_lst ea_nil) rfl scLc.nd (fun d ds e1 e2 => ?_) (Nat.le_of_ble_eq_true rfl) (by decide)
      subst e1; subst e2
      refine hs_frz 8 rfl ?_
      have hlk : lcK c ps lv (j + 1) st = costsAt (atP ps (nDays c - (j : Nat))) (followers c st (nDays c - (j : Nat))) (lcK c ps lv j) lv (followers c st (nDays c - (j : Nat))).length := rfl
      have hfm : ∀ n : Int, 0 ≤ n → n < (followers c st (nDays c - (j : Nat))).length → (followers c st (nDays c - (j : Nat))).getD n.toNat [] ∈ sts c (c.length - j) := fun n h1 h2 => by
        have hl : n.toNat < (followers c st (nDays c - (j : Nat))).length := by omega
        rw [List.getD_eq_getElem?_getD, List.getElem?_eq_getElem hl]
        have := mem_sts (t := (followers c st (nDays c - (j : Nat)))[n.toNat]) hsm (by rw [hd1]; exact List.getElem_mem hl)
        rw [show c.length - 1 - j + 1 = c.length - j by omega] at this
        exact this
      generalize followers c st (nDays c - (j : Nat)) = fs at hfl hlk hfm
      have hpa : atI (ps.map priceD) (nDays c - (j : Nat) - 1) = some (priceD (atP ps (nDays c - (j : Nat)))) := atP_at (by omega) (by omega) rfl
      generalize atP ps (nDays c - (j : Nat)) = pr at hlk hpa
      refine hs_for (K' := fun d => d = .lst (lcL c ps lv c.length).reverse) (fun m r => ∃ x9 x10 x11, r = [.val (tabD C c), .val (pricesD ps), .val (.int (lv : Nat)), .own (lcL c ps lv j), .val (.int (nDays c - (j : Nat))), .ownD (dctS ((sts c (c.length - 1 - j)).take i) fun s => intsD (lcK c ps lv (j + 1) s)), .val (stD st), .val (.lst (fs.map stD)),
          .val (intsD (costsAt pr fs (lcK c ps lv j) lv (m : Nat))), x9, x10, x11, .none, .none])
        rfl PassesOwn.never (ei_range1 (n := (fs.length : Int)) T.range (ea_cons (ed_is (ed_lenL T.len (ea_cons (dv 7) ea_nil)) (by rw [List.length_map])) ea_nil) (by omega) (by omega)) (pg_name (i := 9) scLc.nd rfl (.inl rfl)) ⟨_, _, _, rfl⟩ (fun d => [(9, d)]) (fun d _ => gd_name) ?_ (fun _ _ h => h) ?_
      · rintro H3 m d r' hd ⟨x9, x10, x11, rfl⟩
        obtain ⟨hm, rfl⟩ := range_at hd
        have hm : m < fs.length := by omega
        have e0 : (0 : Int) + (m : Nat) = (m : Nat) := by omega
        rw [e0, show ((m + 1 : Nat) : Int) = (m : Int) + 1 by omega, costsAt_succ (by omega)]
        have hcl2 : (costsAt pr fs (lcK c ps lv j) lv (m : Nat)).length ≤ 200 := Nat.le_trans costsAt_len l2
        generalize costsAt pr fs (lcK c ps lv j) lv (m : Nat) = costs at hcl2
        have hre : ReIn (lcD c ps lv j) (lcK c ps lv j) fs (m : Nat) := ⟨by omega, by omega, hfl, fun n h1 h2 => valN_dctS (v := fun s => intsD (lcK c ps lv j s)) (hfm n h1 (by omega)), fun n h1 h2 => hlen _ _⟩
        refine hs_setNV (Ks := fun es => ∃ R, es = (R.take lv).map triD ∧ IsRe ⟨lcD c ps lv j, lcK c ps lv j, pr, fs, (m : Nat)⟩ R) 3 10 rfl
          (ed_sliceLN (Ka := fun d => ∃ R, d = .lst (R.map triD) ∧ IsRe ⟨lcD c ps lv j, lcK c ps lv j, pr, fs, (m : Nat)⟩ R) (ed_call c2 ⟨lcD c ps lv j, lcK c ps lv j, pr, fs, (m : Nat)⟩ hr (ea_cons (ed_ixL (dv 3) (ed_neg ed_int) (lcL_last c ps lv j)) (ea_cons (ed_ixL (dv 1) (ed_sub (dv 4) ed_int) hpa) (ea_cons (dv 7) (ea_cons (dv 9) ea_nil)))) hre fun _ h => h)
            (fun d ⟨R, e, h⟩ => ⟨_, e, R, by rw [cut_take, List.map_take], h⟩) eo_none (eo_some (dv 2))) (fun es ⟨R, e, h⟩ => by rw [e]; exact noLs_tris _) (fun es ⟨R, e, h⟩ => ?_) scLc.nd
        subst e
        have hcs := re_costs h lv
        simp only at hcs
        have hRl : (R.take lv).length ≤ 200 := by rw [List.length_take]; omega
        rw [← hcs]
        clear hcs h
        generalize R.take lv = R1 at hRl
        have hkl : (List.zipWith minI costs (R1.map (·.1))).length ≤ 200 := by simp only [List.length_zipWith, List.length_map]; omega
        refine hs_setL 11 (costs.zip R1) (fun p => D.tup [.int p.1, triD p.2]) (fun p => [(12, .int p.1), (13, triD p.2)]) (fun _ => true) (fun p => .int (minI p.1 p.2.1)) rfl scLc.nd
          (by rw [← zip_enc]; exact ei_zip (c := false) (d := false) T.zip (ea_cons (dv 8) (ea_cons (dv 10) ea_nil)) rfl rfl) (blkOk_by (own := [("cost", 12), ("entry", 13)]) (by rfl))
          (fun s H C cl fp => pg_tup (n := 2) rfl (pgs_cons (pg_name (i := 12) scLc.nd rfl (.inl rfl)) (pgs_cons (pg_name (i := 13) scLc.nd rfl (.inl rfl)) pgs_nil))) (fun p _ => gd_tup (gd_cons gd_name (gd_cons gd_name gd_nil))) (fun p _ q hq => by simp at hq; rcases hq with e | e <;> subst e <;> simp)
          (fun p _ s H C cl fp => td_tests) (fun p _ _ s H C' cl fp => ed_callB (call_min2 rfl) (c1_min2 (i := p.1) (j := p.2.1)) T.min boot_min (ea_cons (dv 12) (ea_cons (ed_ixK (i := 0) (dv 13) ed_int) ea_nil)))
          (by rw [List.length_zip, sizeLine_eq]; omega) (Nat.le_of_ble_eq_true rfl) ?_ (sw_true rfl rfl rfl (by decide +kernel))
        have ekept : (((costs.zip R1).filter fun _ => true).map fun p => D.int (minI p.1 p.2.1)) = (List.zipWith minI costs (R1.map (·.1))).map D.int := by
          rw [List.filter_eq_self.mpr fun _ _ => rfl, List.zipWith_map_right, List.zip_eq_zipWith, List.map_zipWith, List.map_zipWith]
        rw [ekept]
        have hstep : stepC costs (R1.map (·.1)) = List.zipWith minI costs (R1.map (·.1)) ++ costs.drop (List.zipWith minI costs (R1.map (·.1))).length ++ (R1.drop (List.zipWith minI costs (R1.map (·.1))).length).map (·.1) := by
          unfold stepC
          rw [List.map_drop]
        generalize List.zipWith minI costs (R1.map (·.1)) = kept at hkl hstep
        rw [hstep]
        refine hs_setD 8 (d := intsD (kept ++ costs.drop kept.length ++ (R1.drop kept.length).map (·.1))) (ed_new (ed_cat (ds := (kept ++ costs.drop kept.length).map D.int) (es' := ((R1.drop kept.length).map (·.1)).map D.int)
          (ed_new (ed_cat (ds := kept.map D.int) (es' := (costs.drop kept.length).map D.int) (dv 11) (ed_new (ed_sliceL (dv 8) (eo_some (ed_is (ed_lenL T.len (ea_cons (dv 11) ea_nil)) (by rw [List.length_map]))) eo_none) fun ds e => by rw [e, cut_drop, List.map_drop]) (by rw [List.length_map, List.length_map, List.length_drop, sizeLine_eq]; omega)) fun ds e => by rw [e, List.map_append])
          (ed_new (ef_lc (R1.drop kept.length) triD (fun p => [(13, triD p)]) (fun _ => true) (fun p => .int p.1) rfl scLc.nd (ei_list (ed_new (ed_sliceL (dv 10) (eo_some (ed_is (ed_lenL T.len (ea_cons (dv 11) ea_nil)) (by rw [List.length_map]))) eo_none) fun ds e => by rw [e, cut_drop, List.map_drop])) (blkOk_by (own := [("entry", 13)]) (by rfl))
            (fun s H C cl fp => pg_name (i := 13) scLc.nd rfl (.inl rfl)) (fun p _ => gd_name) (fun p _ q hq => by simp at hq; subst hq; simp) (fun p _ s H C cl fp => td_tests) (fun p _ _ s H C' cl fp => ed_ixK (i := 0) (dv 13) ed_int) (by rw [List.length_drop, sizeLine_eq]; omega)) fun ds e => by rw [e, List.filter_eq_self.mpr fun _ _ => rfl, List.map_map]; rfl)
          (by simp only [List.length_map, List.length_append, List.length_drop]; rw [sizeLine_eq]; omega)) fun ds e => by rw [e, ← List.map_append]) ?_ scLc.nd
        exact hs_nil fun σ H h => ⟨_, ⟨_, _, _, rfl⟩, h⟩
      · rintro r' ⟨x9, x10, x11, rfl⟩
        rw [List.length_map, List.length_range, show ((fs.length : Nat) : Int).toNat = fs.length by omega, ← hlk]
        refine hs_dput (K := fun d => d = intsD (lcK c ps lv (j + 1) st)) 5 hu (dv 8) (ov 5) (ed_key (dv 6)) rfl (depth_kSt st) (by
          unfold dctS
          have := hstl (c.length - 1 - j) (by omega)
          rw [List.length_map, List.length_take]
          omega) fun d ed => ?_
        subst ed
        have hnm : st ∉ (sts c (c.length - 1 - j)).take i := fun z => by
          obtain ⟨k, hk⟩ := List.getElem?_of_mem z
          rw [List.getElem?_take] at hk
          split at hk
          · rename_i hki
            obtain ⟨g1, e1⟩ := List.getElem?_eq_some_iff.mp hk
            obtain ⟨g2, e2⟩ := List.getElem?_eq_some_iff.mp hst
            have := List.pairwise_iff_getElem.mp (sts_nodup c (c.length - 1 - j)) k i g1 g2 hki
            exact this (by rw [e1, e2])
          · cases hk
        rw [show putN (dctS ((sts c (c.length - 1 - j)).take i) fun s => intsD (lcK c ps lv (j + 1) s)) (.tup (st.map kp)) (intsD (lcK c ps lv (j + 1) st)) = dctS ((sts c (c.length - 1 - j)).take (i + 1)) fun s => intsD (lcK c ps lv (j + 1) s) from by
          rw [take_snoc hst]
          exact putN_new (v := fun s => intsD (lcK c ps lv (j + 1) s)) hnm]
        exact hs_nil fun σ H h => ⟨_, ⟨_, _, _, _, _, _, rfl⟩, h⟩
    · rintro r' ⟨x6, x7, x8, x9, x10, x11, rfl⟩
      rw [List.length_map, List.take_length]
      refine hs_frzD 5 rfl ?_
      refine hs_app (K := fun d => d = .dct (lcD c ps lv (j + 1))) 3 (pe_bm PySem.F.plainAttrs_list PySem.F.slot_list_append PySem.type_list_append (fun pins s σ H x xs v us Q I rx rs q => mt_append pins s σ H x xs v us Q I rx rs q) (ov 3) (pa_cons (ed_is (dv 5) (by unfold lcD; rw [show c.length - (j + 1) = c.length - 1 - j by omega])) pa_nil)) rfl (by rw [lcL_len, sizeLine_eq]; omega) fun d e => ?_
      subst e
      rw [lcL_next]
      exact hs_nil fun σ H h => ⟨_, ⟨_, _, _, _, _, _, _, _, rfl⟩, h⟩
  · rintro r' ⟨x4, x5, x6, x7, x8, x9, x10, x11, rfl⟩
    rw [List.length_map, List.length_range, show (nDays c - 0).toNat = c.length by omega]
    exact hs_frz 3 rfl (hs_ret (K := fun d => d = .lst (lcL c ps lv c.length).reverse) (ed_new (ed_revSl (dv 3)) fun ds e => by rw [e]) fun d e => e)
end
end BR

set_option Elab.async false
set_option linter.all false
set_option maxRecDepth 100000
set_option maxHeartbeats 1000000
/-! W14: worst_rows. -/
namespace BR
open PySem L2 PySem.Spec PyProof.Rows PD
abbrev sWR : Stmt := top 35
section
variable {X : Cx} {sts rest : List Stmt} {P : L2.St → Hp → Prop} {E : Ends} {pos : Pos}
theorem hs_brk (h : ∀ σ H, P σ H → E.bk σ H) : Hs X (.Break pos :: rest) P E := hs_cons (M := fun _ _ => False) ps_break (fun σ H p => h σ H p) (hs_never fun _ _ h => h)
end
/-- how many of the entries are of one number -/
def cntNum (R : List Tri) (x : Int) : Nat := (R.filter fun e => decide (e.2.1 = x)).length
def cntGt (R : List Tri) (x : Int) : Nat := (R.filter fun e => decide (x < e.2.1)).length
theorem cntGt_step : ∀ (R : List Tri) (x : Int), cntGt R (x - 1) = cntGt R x + cntNum R x
  | [], x => rfl
  | e :: R, x => by
    have ih := cntGt_step R x
    unfold cntGt cntNum at ih ⊢
    rw [List.filter_cons, List.filter_cons, List.filter_cons]
    simp only [decide_eq_true_eq]
    by_cases h1 : e.2.1 = x
    · rw [if_pos (by omega), if_neg (by omega), if_pos h1, List.length_cons, List.length_cons]
      omega
    · by_cases h2 : x < e.2.1
      · rw [if_pos (by omega), if_pos h2, if_neg h1, List.length_cons, List.length_cons]
        omega
      · rw [if_neg (by omega), if_neg h2, if_neg h1]
        exact ih
theorem cntGt_le (R : List Tri) (x : Int) : cntGt R x ≤ R.length := List.length_filter_le _ _
theorem cntNum_append (R S : List Tri) (x : Int) : cntNum (R ++ S) x = cntNum R x + cntNum S x := by
  unfold cntNum
  rw [List.filter_append, List.length_append]
theorem cntNum_rawN {pr : Price} {used number x : Int} {L : List Int} : cntNum (rawN pr used number L) x = if number = x then L.length else 0 := by
  unfold cntNum
  by_cases h : number = x
  · rw [if_pos h, List.filter_eq_self.mpr, rawN_len]
    intro e he
    unfold rawN at he
    obtain ⟨i, hi⟩ := List.getElem?_of_mem he
    rw [List.getElem?_mapIdx] at hi
    cases q : L[i]? with
    | none => rw [q] at hi; cases hi
    | some y => rw [q] at hi; cases hi; exact decide_eq_true h
  · rw [if_neg h, List.filter_eq_nil_iff.mpr]
    · rfl
    intro e he
    unfold rawN at he
    obtain ⟨i, hi⟩ := List.getElem?_of_mem he
    rw [List.getElem?_mapIdx] at hi
    cases q : L[i]? with
    | none => rw [q] at hi; cases hi
    | some y => rw [q] at hi; cases hi; simp [h]
theorem cntNum_raw {pr : Price} {fs : List State} {lc : State → List Int} {used x : Int} : ∀ {l : List Int}, l.Nodup → cntNum (l.flatMap fun number => rawN pr used number (lc (fs.getD number.toNat []))) x ≤ (lc (fs.getD x.toNat [])).length ∧ (x ∉ l → cntNum (l.flatMap fun number => rawN pr used number (lc (fs.getD number.toNat []))) x = 0)
  | [], _ => ⟨Nat.zero_le _, fun _ => rfl⟩
  | a :: l, h => by
    obtain ⟨h1, h2⟩ := cntNum_raw (pr := pr) (fs := fs) (lc := lc) (used := used) (x := x) (l := l) (List.nodup_cons.mp h).2
    rw [List.flatMap_cons, cntNum_append, cntNum_rawN]
    by_cases e : a = x
    · subst e
      have h3 := h2 (List.nodup_cons.mp h).1
      rw [if_pos rfl, h3]
      exact ⟨by omega, fun z => absurd List.mem_cons_self z⟩
    · rw [if_neg e]
      refine ⟨by omega, fun z => ?_⟩
      have := h2 fun y => z (List.mem_cons_of_mem _ y)
      omega
theorem upN_nodup (n : Int) : (upN n).Nodup := by
  unfold upN
  rw [List.nodup_iff_pairwise_ne, List.pairwise_map]
  exact List.nodup_range.imp fun {a b} h z => h (by omega)
theorem re_num {i : ReA} {R : List Tri} (h : IsRe i R) (m : Nat) (x : Int) : cntNum (R.take m) x ≤ (i.lc (i.fs.getD x.toNat [])).length := by
  have h1 := (cntNum_raw (pr := i.pr) (fs := i.fs) (lc := i.lc) (used := i.used) (x := x) (upN_nodup (i.used + 1))).1
  have h2 : cntNum R x = cntNum (rawR i.pr i.fs i.lc i.used) x := (h.1.filter _).length_eq
  have h3 : cntNum (R.take m) x ≤ cntNum R x := ((List.take_sublist m R).filter _).length_le
  unfold rawR at h2
  omega
abbrev rowD (row : List Int) : D := .tup (row.map D.int)
structure WrA where
  c : Cal
  ps : List Price
  lv : Nat
  k : Nat
  st : State
  m : Nat
structure WrIn (i : WrA) : Prop where
  lc : LcIn i.c i.ps i.lv
  k : i.k ≤ i.c.length
  st : i.st ∈ sts i.c (i.c.length - i.k)
  m1 : 1 ≤ i.m
  m2 : i.m ≤ (lcK i.c i.ps i.lv i.k i.st).length
def IsWR (i : WrA) (d : D) : Prop := ∃ rows : List (List Int), d = .lst (rows.map rowD) ∧ rows.length ≤ i.m ∧ ∀ row ∈ rows, row.length = i.k
abbrev spWR (M : MW) (C : Addr) (k : Nat) : Sp := spO M (fun i : WrA => [tabD C i.c, pricesD i.ps, .lst (lcL i.c i.ps i.lv i.c.length).reverse, .int (nDays i.c - (i.k : Nat) + 1), stD i.st, .int (i.m : Nat)]) (fun i => WrIn i ∧ i.k ≤ k) (fun i d => IsWR i d)
theorem lcL_at {c : Cal} {ps : List Price} {lv k : Nat} (h : k ≤ c.length) : atI (lcL c ps lv c.length).reverse ((c.length - k : Nat) : Int) = some (.dct (lcD c ps lv k)) := by
  unfold atI ixN
  rw [List.length_reverse, lcL_len, if_pos (by omega), if_pos (by omega)]
  show (lcL c ps lv c.length).reverse[((c.length - k : Nat) : Int).toNat]? = _
  rw [Int.toNat_natCast, List.getElem?_reverse (by rw [lcL_len]; omega), lcL_len]
  unfold lcL
  rw [List.getElem?_map, List.getElem?_range (by omega)]
  show some (D.dct (lcD c ps lv (c.length + 1 - 1 - (c.length - k)))) = _
  rw [show c.length + 1 - 1 - (c.length - k) = k by omega]
section
variable {P : Program} {w : World} {K : PySem.W.Frag} {mg : Str → Option Value} {base : Heap} {f C : Addr} {fd : FuncData}
abbrev NWr : List Str := ["table", "prices", "costs", "day", "state", "levels", "following", "used", "some", "rows", "number", "many", "later", "entry", "row"]
abbrev pWr : List Str := ["table", "prices", "costs", "day", "state", "levels"]
theorem scWr : FnScope NWr pWr (defScope sWR) := ⟨rfl, rfl, rfl, by decide +kernel, rfl, by decide +kernel, by decide +kernel⟩
/-- the second loop -/
theorem wr_tail {cdv : Value} {A : Around} {outer : List Env} {s : Shared} {H H0 : Hp} {E : XK} {W : Wd} {c : Cal} {ps : List Price} {lv k k0 m : Nat} {st : State} {fs : List State} {R : List Tri} {u : Int} {x9 x10 x11 x12 : Slot} (T : Txt mg)
    (c3 : PD.Cal P w K mg base (3 + k0) "worst_rows" pWr (spWR ⟨P, w⟩ C k0)) (hk0 : k ≤ k0) (hr : Room (3 + k0) (A.deeper (envOfC "worst_rows" (defScope sWR) s.heap.objs.size f cdv)))
    (hin : LcIn c ps lv) (hk : k + 1 ≤ c.length) (u0 : 0 ≤ u) (u1 : u < fs.length) (fl : fs.length ≤ 13) (hm : R.length ≤ m) (hm2 : m ≤ 200)
    (hfm : ∀ n : Int, 0 ≤ n → n < fs.length → fs.getD n.toNat [] ∈ sts c (c.length - k)) (hc : ∀ x : Int, cntNum R x ≤ (lcK c ps lv k (fs.getD x.toNat [])).length) :
    Hs (cxOf CX0 P w K mg base NWr "worst_rows" (defScope sWR) f cdv A outer s H E).nox ((defBody sWR).drop 3)
      (At ⟨P, w⟩ W H0 [.val (tabD C c), .val (pricesD ps), .val (.lst (lcL c ps lv c.length).reverse), .val (.int (nDays c - ((k + 1 : Nat) : Int) + 1)), .val (stD st), .val (.int (m : Nat)), .val (.lst (fs.map stD)), .val (.int u), .val (.lst (R.map triD)), x9, x10, x11, x12, .none, .none])
      { nx := fun _ H' => Rt ⟨P, w⟩ W H0 (IsWR ⟨c, ps, lv, k + 1, st, m⟩) .non H', rt := Rt ⟨P, w⟩ W H0 (IsWR ⟨c, ps, lv, k + 1, st, m⟩) } := by
  have hn : nDays c = (c.length : Int) := rfl
  have hcl := hin.tab.ok.len
  refine hs_setNew 9 (ef_lst ea_nil) (fun ds e => ?_) (Nat.le_of_ble_eq_true rfl) scWr.nd
  subst e
  refine hs_for (K' := IsWR ⟨c, ps, lv, k + 1, st, m⟩) (fun j r => ∃ rows : List (List Int), ∃ x10 x11 x12, rows.length ≤ cntGt R (u - (j : Nat)) ∧ (∀ row ∈ rows, row.length = k + 1) ∧ r = [.val (tabD C c), .val (pricesD ps), .val (.lst (lcL c ps lv c.length).reverse), .val (.int (nDays c - ((k + 1 : Nat) : Int) + 1)), .val (stD st), .val (.int (m : Nat)), .val (.lst (fs.map stD)), .val (.int u), .val (.lst (R.map triD)), .own (rows.map rowD), x10, x11, x12, .none, .none])
    rfl PassesOwn.never (ei_range3 (i := u) (j := -1) T.range (ea_cons (dv 7) (ea_cons (ed_neg ed_int) (ea_cons (ed_neg ed_int) ea_nil))) (by omega)) (pg_name (i := 10) scWr.nd rfl (.inr rfl)) ⟨[], _, _, _, Nat.zero_le _, (fun _ h => nomatch h), rfl⟩ (fun d => [(10, d)]) (fun d _ => gd_name) ?_ (fun _ _ h => h) ?_
  · rintro H1 j d r' hd ⟨rows, x10, x11, x12, hrl, hrk, rfl⟩
    obtain ⟨hj, rfl⟩ : (j : Int) ≤ u ∧ d = .int (u - (j : Nat)) := by
      rw [List.getElem?_map] at hd
      have hj : j < (u - -1).toNat := by
        rcases Nat.lt_or_ge j (u - -1).toNat with q | q
        · exact q
        · rw [List.getElem?_eq_none (by simpa using q)] at hd; cases hd
      rw [List.getElem?_range hj] at hd
      have hd : D.int (u + (j : Nat) * (-1)) = d := by simpa using hd
      refine ⟨by omega, ?_⟩
      rw [← hd]
      congr 1
      omega
    have hstep := cntGt_step R (u - (j : Nat))
    have hgl := cntGt_le R (u - ((j + 1 : Nat) : Int))
    rw [show u - (j : Nat) - 1 = u - ((j + 1 : Nat) : Int) by omega] at hstep
    have hcj := hc (u - (j : Nat))
    have hfj := hfm (u - (j : Nat)) (by omega) (by omega)
    refine hs_setD 11 (d := .int (cntNum R (u - (j : Nat)) : Nat)) (ed_is (ed_lenL T.len (ea_cons (ed_new (ef_lc R triD (fun e => [(13, triD e)]) (fun e => decide (e.2.1 = u - (j : Nat))) (fun _ => .int 1) rfl scWr.nd (ei_list (dv 8)) (blkOk_by (own := [("entry", 13)]) (by rfl)) (fun s H C cl fp => pg_name (i := 13) scWr.nd rfl (.inl rfl)) (fun e _ => gd_name) (fun e _ q hq => by simp at hq; subst hq; simp)
        (fun e _ s H C cl fp => td_test1 (td_eqI (ed_ixK (i := 1) (dv 13) ed_int) (dv 10))) (fun e _ _ s H C cl fp => ed_int) (by rw [sizeLine_eq]; omega)) fun ds e => by rw [e]) ea_nil)) (by rw [List.length_map]; rfl)) ?_ scWr.nd
    refine hs_if (M := fun σ H => ∃ r', (∃ rows : List (List Int), ∃ x10 x11 x12, rows.length ≤ cntGt R (u - ((j + 1 : Nat) : Int)) ∧ (∀ row ∈ rows, row.length = k + 1) ∧ r' = [.val (tabD C c), .val (pricesD ps), .val (.lst (lcL c ps lv c.length).reverse), .val (.int (nDays c - ((k + 1 : Nat) : Int) + 1)), .val (stD st), .val (.int (m : Nat)), .val (.lst (fs.map stD)), .val (.int u), .val (.lst (R.map triD)), .own (rows.map rowD), x10, x11, x12, .none, .none]) ∧ At ⟨P, w⟩ W H1 r' σ H)
      (td_gt (i := (cntNum R (u - (j : Nat)) : Nat)) (j := 0) (dv 11) ed_int) (fun hb => ?_) (fun hb => ?_) (hs_nil fun σ H h => h)
    · have hb : (0 : Int) < (cntNum R (u - (j : Nat)) : Nat) := by simpa using hb
      generalize hst' : fs.getD (u - (j : Nat)).toNat [] = st' at hcj hfj
      generalize hmy : cntNum R (u - (j : Nat)) = my at hb hcj hstep
      refine hs_set (K := IsWR ⟨c, ps, lv, k, st', my⟩) 12 (ed_call c3 ⟨c, ps, lv, k, st', my⟩ hr (ea_cons (dv 0) (ea_cons (dv 1) (ea_cons (dv 2) (ea_cons (ed_is (ed_add (dv 3) ed_int) (by show D.int _ = D.int (nDays c - (k : Nat) + 1); congr 1; omega)) (ea_cons (ed_ixL (dv 6) (dv 10) (by rw [← hst']; exact at_map (by omega) (by omega))) (ea_cons (dv 11) ea_nil)))))) ⟨⟨hin, (by show k ≤ c.length; omega), hfj, (by show 1 ≤ my; omega), hcj⟩, hk0⟩ fun _ h => h) (fun d ⟨rs, ed, h1, h2⟩ => ?_) scWr.nd
      subst ed
      simp only at h1 h2
      refine hs_extend (K := fun d => d = .lst ((rs.map fun row => (u - (j : Nat)) :: row).map rowD)) (Ks := fun es => es = (rs.map fun row => (u - (j : Nat)) :: row).map rowD) 9 (pe_bm PySem.F.plainAttrs_list PySem.F.slot_list_extend PySem.F.type_list_extend mt_extend (ov 9) (pa_cons
        (ed_new (ef_lc rs rowD (fun row => [(14, rowD row)]) (fun _ => true) (fun row => rowD ((u - (j : Nat)) :: row)) rfl scWr.nd (ei_list (dv 12)) (blkOk_by (own := [("row", 14)]) (by rfl)) (fun s H C cl fp => pg_name (i := 14) scWr.nd rfl (.inl rfl)) (fun e _ => gd_name) (fun e _ q hq => by simp at hq; subst hq; simp) (fun e _ s H C cl fp => td_tests)
          (fun row hrow _ s H C cl fp => ed_catT (ds := [.int (u - (j : Nat))]) (ed_tup (ea_cons (dv 10) ea_nil)) (dv 14) (by rw [List.length_map, h2 row hrow, sizeLine_eq]; simp only [List.length_cons, List.length_nil]; omega)) (by rw [sizeLine_eq]; omega)) fun ds e => by rw [e, List.filter_eq_self.mpr fun _ _ => rfl, List.map_map]; rfl) pa_nil)) rfl
        (fun d e => ⟨_, e, by rw [List.length_map, List.length_map, List.length_map, sizeLine_eq]; omega, rfl⟩) ?_
      rintro es rfl
      refine hs_nil fun σ H h => ⟨_, ⟨rows ++ rs.map fun row => (u - (j : Nat)) :: row, _, _, _, ?_, ?_, by rw [List.map_append]; rfl⟩, h⟩
      · rw [List.length_append, List.length_map]; omega
      · intro row hrow
        rcases List.mem_append.mp hrow with q | q
        · exact hrk row q
        · obtain ⟨r0, q1, q2⟩ := List.mem_map.mp q
          rw [← q2, List.length_cons, h2 r0 q1]
    · refine hs_nil fun σ H h => ⟨_, ⟨rows, _, _, _, by omega, hrk, rfl⟩, h⟩
  · rintro r' ⟨rows, x10, x11, x12, hrl, hrk, rfl⟩
    have hgl := cntGt_le R (u - (((List.range (u - -1).toNat).map fun n => D.int (u + (n : Nat) * (-1))).length : Nat))
    exact hs_frz 9 rfl (hs_ret (K := fun d => d = .lst (rows.map rowD)) (dv 9) fun d e => ⟨rows, e, by show rows.length ≤ m; omega, hrk⟩)
/-- behind the last day -/
theorem wr_zero {cdv : Value} {A : Around} {outer : List Env} {s : Shared} {H H0 : Hp} {E : XK} {W : Wd} {c : Cal} {ps : List Price} {lv m : Nat} {st : State} (TC : TabC K C) (m1 : 1 ≤ m) :
    Hs (cxOf CX0 P w K mg base NWr "worst_rows" (defScope sWR) f cdv A outer s H E).nox (defBody sWR)
      (At ⟨P, w⟩ W H0 [.val (tabD C c), .val (pricesD ps), .val (.lst (lcL c ps lv c.length).reverse), .val (.int (nDays c - ((0 : Nat) : Int) + 1)), .val (stD st), .val (.int (m : Nat)), .none, .none, .none, .none, .none, .none, .none, .none, .none])
      { nx := fun _ H' => Rt ⟨P, w⟩ W H0 (IsWR ⟨c, ps, lv, 0, st, m⟩) .non H', rt := Rt ⟨P, w⟩ W H0 (IsWR ⟨c, ps, lv, 0, st, m⟩) } := by
  refine hs_ifT (M := fun _ _ => False) (tt_is (td_gt (i := nDays c - ((0 : Nat) : Int) + 1) (j := nDays c) (dv 3) (ed_fld (dv 0) TC.cls TC.days rfl)) (decide_eq_true (by omega))) ?_ (hs_never fun _ _ h => h)
  exact hs_ret (K := fun d => d = .lst ([[]].map rowD)) (ed_lst (ea_cons (ed_tup (ds := []) ea_nil) ea_nil)) fun d e => ⟨[[]], e, m1, fun row h => by rw [List.mem_singleton.mp h]; rfl⟩
theorem wr_succ {cdv : Value} {A : Around} {outer : List Env} {s : Shared} {H H0 : Hp} {E : XK} {W : Wd} {c : Cal} {ps : List Price} {lv k k0 m : Nat} {st : State} (T : Txt mg) (TC : TabC K C)
    (c1 : MCal P w K mg base C 2 "followers" ["self", "state", "day"] (spFollowers ⟨P, w⟩ C)) (c2 : PD.Cal P w K mg base 2 "reached" ["later", "price", "following", "used"] (spRe ⟨P, w⟩))
    (c3 : PD.Cal P w K mg base (3 + k0) "worst_rows" pWr (spWR ⟨P, w⟩ C k0)) (hk0 : k ≤ k0) (hr : Room (3 + k0) (A.deeper (envOfC "worst_rows" (defScope sWR) s.heap.objs.size f cdv))) (hin : WrIn ⟨c, ps, lv, k + 1, st, m⟩) :
    Hs (cxOf CX0 P w K mg base NWr "worst_rows" (defScope sWR) f cdv A outer s H E).nox (defBody sWR)
      (At ⟨P, w⟩ W H0 [.val (tabD C c), .val (pricesD ps), .val (.lst (lcL c ps lv c.length).reverse), .val (.int (nDays c - ((k + 1 : Nat) : Int) + 1)), .val (stD st), .val (.int (m : Nat)), .none, .none, .none, .none, .none, .none, .none, .none, .none])
      { nx := fun _ H' => Rt ⟨P, w⟩ W H0 (IsWR ⟨c, ps, lv, k + 1, st, m⟩) .non H', rt := Rt ⟨P, w⟩ W H0 (IsWR ⟨c, ps, lv, k + 1, st, m⟩) } := by
  obtain ⟨lin, hk, hst, m1, m2⟩ := hin
  simp only at lin hk hst m1 m2
  have hu : (cxOf CX0 P w K mg base NWr "worst_rows" (defScope sWR) f cdv A outer s H E).nox.A.units + 64 < cLine := hr.units
  have hn : nDays c = (c.length : Int) := rfl
  have tab := lin.tab
  have hpl := lin.len
  have hlen : ∀ k s, (lcK c ps lv k s).length ≤ 200 := fun k s => Nat.le_trans (lcK_len lin.l1) lin.l2
  have hm2 : m ≤ 200 := Nat.le_trans m2 (hlen _ _)
  have hsb := tab.bd (c.length - (k + 1)) (by omega) st hst
  have hday : nDays c - ((k + 1 : Nat) : Int) + 1 = ((c.length - k : Nat) : Int) := by omega
  have hday1 : nDays c - ((k + 1 : Nat) : Int) + 1 - 1 = ((c.length - (k + 1) : Nat) : Int) := by omega
  have hfl := followers_len tab.ok hsb (day := nDays c - ((k + 1 : Nat) : Int) + 1) (by omega) (by omega)
  have hfn : 0 < (followers c st (nDays c - ((k + 1 : Nat) : Int) + 1)).length := by
    have := tab.rm (c.length - (k + 1)) (by omega) st hst
    rw [show ((c.length - (k + 1) : Nat) : Int) + 1 = nDays c - ((k + 1 : Nat) : Int) + 1 by omega] at this
    unfold followers upTo
    rw [List.length_map, List.length_map, List.length_range]
    omega
  have hfm : ∀ n : Int, 0 ≤ n → n < (followers c st (nDays c - ((k + 1 : Nat) : Int) + 1)).length → (followers c st (nDays c - ((k + 1 : Nat) : Int) + 1)).getD n.toNat [] ∈ sts c (c.length - k) := fun n h1 h2 => by
    have hl : n.toNat < (followers c st (nDays c - ((k + 1 : Nat) : Int) + 1)).length := by omega
    rw [List.getD_eq_getElem?_getD, List.getElem?_eq_getElem hl]
    have := mem_sts (t := (followers c st (nDays c - ((k + 1 : Nat) : Int) + 1))[n.toNat]) hst (by rw [show ((c.length - (k + 1) : Nat) : Int) + 1 = nDays c - ((k + 1 : Nat) : Int) + 1 by omega]; exact List.getElem_mem hl)
    rw [show c.length - (k + 1) + 1 = c.length - k by omega] at this
    exact this
  refine hs_ifF (tt_is (td_gt (i := nDays c - ((k + 1 : Nat) : Int) + 1) (j := nDays c) (dv 3) (ed_fld (dv 0) TC.cls TC.days rfl)) (decide_eq_false (by omega))) ?_
  refine hs_setD 6 (d := .lst ((followers c st (nDays c - ((k + 1 : Nat) : Int) + 1)).map stD)) (ed_meth c1 (c, st, nDays c - ((k + 1 : Nat) : Int) + 1) TC.cls (hr.mono (by omega)) (ed_subF (fs' := f0 c) (dv 0) ⟨rfl, rfl, rfl, rfl, trivial⟩) (by decide) (ea_cons (dv 4) (ea_cons (dv 3) ea_nil)) rfl ⟨tab.ok, hsb, by show (1 : Int) ≤ nDays c - ((k + 1 : Nat) : Int) + 1; omega, by show nDays c - ((k + 1 : Nat) : Int) + 1 ≤ nDays c; omega⟩ fun _ h => h) ?_ scWr.nd
  generalize followers c st (nDays c - ((k + 1 : Nat) : Int) + 1) = fs at hfl hfn hfm
  have hpa : atI (ps.map priceD) (nDays c - ((k + 1 : Nat) : Int) + 1 - 1) = some (priceD (atP ps (nDays c - ((k + 1 : Nat) : Int) + 1))) := atP_at (by omega) (by omega) rfl
  generalize atP ps (nDays c - ((k + 1 : Nat) : Int) + 1) = pr at hpa
  have fin : ∀ (u : Int) (R' : List Tri), 0 ≤ u → u < fs.length → IsRe ⟨lcD c ps lv k, lcK c ps lv k, pr, fs, u⟩ R' → Hs (cxOf CX0 P w K mg base NWr "worst_rows" (defScope sWR) f cdv A outer s H E).nox ((defBody sWR).drop 3)
      (At ⟨P, w⟩ W H0 [.val (tabD C c), .val (pricesD ps), .val (.lst (lcL c ps lv c.length).reverse), .val (.int (nDays c - ((k + 1 : Nat) : Int) + 1)), .val (stD st), .val (.int (m : Nat)), .val (.lst (fs.map stD)), .val (.int u), .val (.lst ((R'.take m).map triD)), .none, .none, .none, .none, .none, .none])
      { nx := fun _ H' => Rt ⟨P, w⟩ W H0 (IsWR ⟨c, ps, lv, k + 1, st, m⟩) .non H', rt := Rt ⟨P, w⟩ W H0 (IsWR ⟨c, ps, lv, k + 1, st, m⟩) } := fun u R' h1 h2 h3 =>
    @wr_tail P w K mg base f C cdv A outer s H H0 E W c ps lv k k0 m st fs (R'.take m) u .none .none .none .none T c3 hk0 hr lin hk h1 h2 hfl (by rw [List.length_take]; omega) hm2 hfm (fun x => re_num h3 m x)
  refine hs_forN (K' := IsWR ⟨c, ps, lv, k + 1, st, m⟩) (Ki := fun ds => ds = (List.range (fs.length : Int).toNat).map fun i => D.int (0 + (i : Nat))) (fun ds j r => ∃ x7 x8, r = [.val (tabD C c), .val (pricesD ps), .val (.lst (lcL c ps lv c.length).reverse), .val (.int (nDays c - ((k + 1 : Nat) : Int) + 1)), .val (stD st), .val (.int (m : Nat)), .val (.lst (fs.map stD)), x7, x8, .none, .none, .none, .none, .none, .none] ∧
      (j = 0 ∨ ∃ (u : Int) (R' : List Tri), 0 ≤ u ∧ u < fs.length ∧ IsRe ⟨lcD c ps lv k, lcK c ps lv k, pr, fs, u⟩ R' ∧ x7 = .val (.int u) ∧ x8 = .val (.lst ((R'.take m).map triD))))
    (fun H1 σ H => ∃ z : { z : Int × List Tri // 0 ≤ z.1 ∧ z.1 < fs.length ∧ IsRe ⟨lcD c ps lv k, lcK c ps lv k, pr, fs, z.1⟩ z.2 }, At ⟨P, w⟩ W H1 [.val (tabD C c), .val (pricesD ps), .val (.lst (lcL c ps lv c.length).reverse), .val (.int (nDays c - ((k + 1 : Nat) : Int) + 1)), .val (stD st), .val (.int (m : Nat)), .val (.lst (fs.map stD)), .val (.int z.1.1), .val (.lst ((z.1.2.take m).map triD)), .none, .none, .none, .none, .none, .none] σ H)
    rfl PassesOwn.never (ei_range1 (n := (fs.length : Int)) T.range (ea_cons (ed_is (ed_lenL T.len (ea_cons (dv 6) ea_nil)) (by rw [List.length_map])) ea_nil) (by omega) (by omega)) (pg_name (i := 7) scWr.nd rfl (.inl rfl))
    (fun ds _ => ⟨_, _, rfl, .inl rfl⟩) (fun d => [(7, d)]) (fun ds d _ _ => gd_name) ?_ (fun _ _ h => h) (fun H1 σ H e ok ⟨z, h⟩ => ⟨z, At.base h ok e⟩) ?_ (hs_ex fun z => fin z.1.1 z.1.2 z.2.1 z.2.2.1 z.2.2.2)
  · rintro H1 ds j d r' rfl hd ⟨x7, x8, rfl, _⟩
    obtain ⟨hj, rfl⟩ := range_at hd
    have hj : j < fs.length := by omega
    have e0 : (0 : Int) + (j : Nat) = (j : Nat) := by omega
    rw [e0]
    have hre : ReIn (lcD c ps lv k) (lcK c ps lv k) fs (j : Nat) := ⟨by omega, by omega, hfl, fun n h1 h2 => valN_dctS (v := fun s => intsD (lcK c ps lv k s)) (hfm n h1 (by omega)), fun n h1 h2 => hlen _ _⟩
    refine hs_set (K := fun d => ∃ R', d = .lst ((R'.take m).map triD) ∧ IsRe ⟨lcD c ps lv k, lcK c ps lv k, pr, fs, (j : Nat)⟩ R') 8 (ed_new (Ks := fun es => ∃ R', es = (R'.take m).map triD ∧ IsRe ⟨lcD c ps lv k, lcK c ps lv k, pr, fs, (j : Nat)⟩ R')
      (ed_sliceLN (Ka := fun d => ∃ R, d = .lst (R.map triD) ∧ IsRe ⟨lcD c ps lv k, lcK c ps lv k, pr, fs, (j : Nat)⟩ R) (ed_call c2 ⟨lcD c ps lv k, lcK c ps lv k, pr, fs, (j : Nat)⟩ (hr.mono (by omega)) (ea_cons (ed_ixL (dv 2) (dv 3) (by rw [hday]; exact lcL_at (by omega))) (ea_cons (ed_ixL (dv 1) (ed_sub (dv 3) ed_int) hpa) (ea_cons (dv 6) (ea_cons (dv 7) ea_nil)))) hre fun _ h => h)
        (fun d ⟨R, e, h⟩ => ⟨_, e, R, by rw [cut_take, List.map_take], h⟩) eo_none (eo_some (dv 5))) fun es ⟨R, e, h⟩ => ⟨R, by rw [e], h⟩) (fun d ⟨R, ed, h⟩ => ?_) scWr.nd
    subst ed
    refine hs_if (b := decide (((R.take m).length : Int) = (m : Nat)) && decide (((R.take m).getLastD (0, 0, 0)).1 = (lcK c ps lv (k + 1) st).getD ((m : Int) - 1).toNat 0)) (M := fun σ H => ∃ r', (∃ x7 x8, r' = [.val (tabD C c), .val (pricesD ps), .val (.lst (lcL c ps lv c.length).reverse), .val (.int (nDays c - ((k + 1 : Nat) : Int) + 1)), .val (stD st), .val (.int (m : Nat)), .val (.lst (fs.map stD)), x7, x8, .none, .none, .none, .none, .none, .none] ∧
      (j + 1 = 0 ∨ ∃ (u : Int) (R' : List Tri), 0 ≤ u ∧ u < fs.length ∧ IsRe ⟨lcD c ps lv k, lcK c ps lv k, pr, fs, u⟩ R' ∧ x7 = .val (.int u) ∧ x8 = .val (.lst ((R'.take m).map triD)))) ∧ At ⟨P, w⟩ W H1 r' σ H)
      (PW.pt (tw_and (tt_is (td_eqI (ed_lenL T.len (ea_cons (dv 8) ea_nil)) (dv 5)) (by rw [List.length_map])) fun hlm => ?_)) (fun hb => ?_) (fun hb => ?_) (hs_nil fun σ H h => h)
    · have hlm : ((R.take m).length : Int) = (m : Nat) := by simpa using hlm
      have hne : R.take m ≠ [] := fun z => by rw [z] at hlm; simp at hlm; omega
      have hlast : atI ((R.take m).map triD) (-1) = some (triD ((R.take m).getLastD (0, 0, 0))) := by
        refine atI_back ?_
        rw [List.getLast?_map, List.getLast?_eq_getLast hne, List.getLastD_eq_getLast?, List.getLast?_eq_getLast hne]
        rfl
      exact tw_and1 (td_eqI (ed_ixK (i := 0) (ed_ixL (dv 8) (ed_neg ed_int) hlast) ed_int) (ed_ixL (ed_dget hu (ed_ixL (dv 2) (ed_sub (dv 3) ed_int) (by rw [hday1]; exact lcL_at (by omega))) (ed_key (dv 4)) (valN_dctS (v := fun s => intsD (lcK c ps lv (k + 1) s)) hst) (depth_kSt st)) (ed_sub (dv 5) ed_int) (at_map (z := 0) (by omega) (by omega))))
    · exact hs_brk fun σ H a => ⟨⟨((j : Nat), R), by show (0 : Int) ≤ (j : Nat); omega, by show ((j : Nat) : Int) < fs.length; omega, h⟩, a⟩
    · exact hs_nil fun σ H a => ⟨_, ⟨_, _, rfl, .inr ⟨(j : Nat), R, by omega, by omega, h, rfl, rfl⟩⟩, a⟩
  · rintro ds r' rfl ⟨x7, x8, rfl, hx⟩
    rcases hx with hx | ⟨u, R', h1, h2, h3, rfl, rfl⟩
    · exfalso
      rw [List.length_map, List.length_range] at hx
      omega
    · exact fin u R' h1 h2 h3
/-- worst_rows, with at most k days left -/
theorem ok_wr (T : Txt mg) (TC : TabC K C) (c1 : MCal P w K mg base C 2 "followers" ["self", "state", "day"] (spFollowers ⟨P, w⟩ C)) (c2 : PD.Cal P w K mg base 2 "reached" ["later", "price", "following", "used"] (spRe ⟨P, w⟩))
    (F : Fun K "worst_rows" "worst_rows" sWR f fd) (hm : mg "worst_rows" = some (.ref f)) (hkp : PySem.W.keepIn K (.ref f) = true) (hb : Binds K fd pWr []) : ∀ k : Nat, FnOk P w K mg base CX0 (3 + k) f fd pWr (spWR ⟨P, w⟩ C k)
  | 0 => by
    refine fn_D F scWr (fun _ => rfl) (by decide) fun cdv A outer s H E W H0 i hr hp => ?_
    obtain ⟨c, ps, lv, kk, st, m⟩ := i
    obtain ⟨h1, h2⟩ := hp
    have : kk = 0 := by show kk = 0; exact Nat.le_zero.mp h2
    subst this
    exact @wr_zero P w K mg base f C cdv A outer s H H0 E W c ps lv m st TC h1.m1
  | k0 + 1 => by
    have IH := ok_wr T TC c1 c2 F hm hkp hb k0
    refine fn_D (k := 3 + k0) F scWr (fun _ => rfl) (by decide) fun cdv A outer s H E W H0 i hr hp => ?_
    obtain ⟨c, ps, lv, kk, st, m⟩ := i
    obtain ⟨h1, h2⟩ := hp
    cases kk with
    | zero => exact @wr_zero P w K mg base f C cdv A outer s H H0 E W c ps lv m st TC h1.m1
    | succ k => exact @wr_succ P w K mg base f C cdv A outer s H H0 E W c ps lv k k0 m st T TC c1 c2 ⟨f, fd, IH, hm, hkp, hb⟩ (by have : k + 1 ≤ k0 + 1 := h2; omega) hr h1
end
end BR

set_option Elab.async false
set_option linter.all false
set_option maxRecDepth 100000
set_option maxHeartbeats 1000000
/-! W15: cheapest_worst. -/
namespace BR
open PySem L2 PySem.Spec PyProof.Rows PD
abbrev sCW : Stmt := top 36
section
variable {P : Program} {w : World} {K : PySem.W.Frag} {mg : Str → Option Value} {base : Heap} {f C : Addr} {fd : FuncData}
theorem scCW : FnScope ["calendar", "prices", "levels", "table", "costs"] ["calendar", "prices", "levels"] (defScope sCW) := ⟨rfl, rfl, rfl, by decide +kernel, rfl, by decide +kernel, by decide +kernel⟩
structure CwIn (c : Cal) (ps : List Price) (lv : Nat) : Prop where
  cal : CalIn c
  pr : PrOk ps
  lc : LcIn c ps lv
  cnt : (lv : Int) ≤ cnt c c.length []
  len : lv ≤ (lcK c ps lv c.length []).length
/-- the least worst cost -/
def cwCost (c : Cal) (ps : List Price) (lv : Nat) : Int := (lcK c ps lv c.length []).getD ((lv : Int) - 1).toNat 0
abbrev spCW (M : MW) : Sp := spO M (fun i : Cal × List Price × Nat => [calD i.1, pricesD i.2.1, .int (i.2.2 : Nat)]) (fun i => CwIn i.1 i.2.1 i.2.2) (fun i d => ∃ x, d = .tup [.int (cwCost i.1 i.2.1 i.2.2), x])
theorem ok_cw (T : Txt mg) (TC : TabC K C) (c1 : PD.Cal P w K mg base 4 "require_calendar" ["calendar"] (spReqCal ⟨P, w⟩)) (c2 : PD.Cal P w K mg base 4 "require_prices" ["calendar", "prices"] (spReqPrices ⟨P, w⟩)) (c3 : PD.Cal P w K mg base 2 "is_between" ["value", "low", "high"] (spBetween ⟨P, w⟩))
    (tm : TMk P w K mg base C) (c4 : MCal P w K mg base C 2 "count_after" ["self", "past"] (spCountAfter ⟨P, w⟩ C)) (c5 : PD.Cal P w K mg base 3 "least_costs" ["table", "prices", "levels"] (spLc ⟨P, w⟩ C)) (c6 : PD.Cal P w K mg base 103 "worst_rows" pWr (spWR ⟨P, w⟩ C 100))
    (F : Fun K "cheapest_worst" "cheapest_worst" sCW f fd) : FnOk P w K mg base CX0 104 f fd ["calendar", "prices", "levels"] (spCW ⟨P, w⟩) := by
  refine fn_D F scCW (fun _ => rfl) (by decide) fun cdv A outer s H E W H0 i hr hp => ?_
  obtain ⟨c, ps, lv⟩ := i
  obtain ⟨h1, h2, h3, h4, h5⟩ := hp
  simp only at h1 h2 h3 h4 h5
  have hu : (cxOf CX0 P w K mg base ["calendar", "prices", "levels", "table", "costs"] "cheapest_worst" (defScope sCW) f cdv A outer s H E).nox.A.units + 64 < cLine := hr.units
  obtain ⟨t, hml⟩ := T.maxLevels
  have l1 := h3.l1
  have l2 := h3.l2
  have hl := h1.len
  refine hs_drop (K := fun _ => True) (ed_call c1 c (hr.mono (by decide)) (ea_cons (dv 0) ea_nil) h1 fun _ _ => trivial) ?_
  refine hs_drop (K := fun _ => True) (ed_call c2 (c, ps) (hr.mono (by decide)) (ea_cons (dv 0) (ea_cons (dv 1) ea_nil)) ⟨h3.len.symm, h2⟩ fun _ _ => trivial) ?_
  refine hs_ifF (tt_is (td_not (td_val (ed_call c3 ((lv : Nat), 1, 200) (hr.mono (by decide)) (ea_cons (dv 2) (ea_cons ed_int (ea_cons (ed_globI hml) ea_nil))) trivial fun _ h => h))) (by
    have e1 : (1 : Int) ≤ (lv : Nat) := by omega
    have e2 : ((lv : Nat) : Int) ≤ 200 := by omega
    simp [e1, e2])) ?_
  refine hs_setD 3 (d := tabD C c) (ed_table tm (hr.mono (by decide)) (ea_cons (dv 0) ea_nil) h3.tab) ?_ scCW.nd
  refine hs_ifF (tt_is (td_gt (dv 2) (ed_meth c4 c TC.cls (hr.mono (by decide)) (dv 3) (by decide) (ea_cons (ed_tup (ds := []) ea_nil) ea_nil) rfl trivial fun _ h => h)) (decide_eq_false (by show ¬ cnt c c.length [] < ((lv : Nat) : Int); omega))) ?_
  refine hs_setD 4 (d := .lst (lcL c ps lv c.length).reverse) (ed_call c5 (c, ps, lv) (hr.mono (by decide)) (ea_cons (dv 3) (ea_cons (dv 1) (ea_cons (dv 2) ea_nil))) h3 fun _ h => h) ?_ scCW.nd
  have hv : valN (lcD c ps lv c.length) (kSt []) = some (intsD (lcK c ps lv c.length [])) := by
    unfold lcD
    exact valN_dctS (v := fun s => intsD (lcK c ps lv c.length s)) (by rw [Nat.sub_self]; simp [sts])
  have h0 : atI (lcL c ps lv c.length).reverse 0 = some (.dct (lcD c ps lv c.length)) := by
    have := lcL_at (c := c) (ps := ps) (lv := lv) (Nat.le_refl c.length)
    rw [Nat.sub_self] at this
    exact this
  refine hs_ret (K := fun d => ∃ x, d = .tup [.int (cwCost c ps lv), x]) (ed_tupN (Ks := fun ds => ∃ x, ds = [.int (cwCost c ps lv), x]) (ea_consN (K := fun d => d = .int (cwCost c ps lv)) (Kr := fun ds => ∃ x, ds = [x])
    (ed_ixL (ed_dget (ks := []) hu (ed_ixL (i := 0) (dv 4) ed_int h0) (ed_ktp (ds := []) ea_nil) hv (depth_kSt [])) (ed_sub (dv 2) ed_int) (at_map (z := 0) (by omega) (by omega)))
    (ea_consN (K := fun d => True) (Kr := fun ds => ds = []) (ed_call c6 ⟨c, ps, lv, c.length, [], lv⟩ hr (ea_cons (dv 3) (ea_cons (dv 1) (ea_cons (dv 4) (ea_cons (ed_is ed_int (by show D.int 1 = D.int (nDays c - (c.length : Nat) + 1); congr 1; unfold nDays; omega)) (ea_cons (ed_ktp (ds := []) ea_nil) (ea_cons (dv 2) ea_nil))))))
      ⟨⟨h3, Nat.le_refl _, by show ([] : State) ∈ sts c (c.length - c.length); rw [Nat.sub_self]; simp [sts], l1, h5⟩, hl⟩ fun _ _ => trivial) ea_nil fun d ds _ e => ⟨d, by rw [e]⟩) fun d ds e ⟨x, e2⟩ => ⟨x, by rw [e, e2]⟩) fun ds ⟨x, e⟩ => ⟨by rw [e]; exact Nat.le_of_ble_eq_true rfl, x, by rw [e]⟩) fun d h => h
end
end BR

set_option Elab.async false
set_option linter.all false
set_option maxRecDepth 100000
set_option maxHeartbeats 1000000
/-! W16: _law_mix, _law_source, _law_draw, _law_choice. -/
namespace BR
open PySem L2 PySem.Spec PyProof.Rows PD
abbrev sMix : Stmt := top 38
abbrev sSource : Stmt := top 39
abbrev sDraw : Stmt := top 40
abbrev sChoice : Stmt := top 41
theorem fmod_bd (a : Int) {m : Int} (h : 0 < m) : 0 ≤ a.fmod m ∧ a.fmod m < m := ⟨Int.fmod_nonneg_of_pos a h, Int.fmod_lt_of_pos a h⟩
section
variable {X : Cx} {M : MW} {r : List (Option D)} {a b : Expr} {pos : Pos} {Ka Kb : D → Prop}
theorem ed_fdivW {i j : Int} (ha : PE X a (tD M r (.int i))) (hb : PE X b (tD M r (.int j))) (hc : CDivW i j) : PE X (.BinOp a .FloorDiv b pos) (tD M r (.int (i / j))) := ed_op op_fdivW ha hb (op2_I hc fun _ _ => rfl)
theorem ed_fdivWN {j : Int} (ha : PE X a (tN M r IntD)) (hb : PE X b (tD M r (.int j))) (hc : ∀ i, CDivW i j) : PE X (.BinOp a .FloorDiv b pos) (tN M r IntD) := ed_opN op_fdivW ha hb fun dx dy ⟨i, e1⟩ e2 => by subst e1; subst e2; exact Op2.imp (op2_I (dd := .int (i / j)) (hc i) fun _ _ => rfl) fun d e => ⟨_, e⟩
theorem ed_addN {j : Int} (ha : PE X a (tN M r IntD)) (hb : PE X b (tD M r (.int j))) : PE X (.BinOp a .Add b pos) (tN M r IntD) := ed_opN op_add ha hb fun dx dy ⟨i, e1⟩ e2 => by subst e1; subst e2; exact Op2.imp (op2_I0 (dd := .int (i + j)) fun _ _ => rfl) fun d e => ⟨_, e⟩
/-- an int from 0 on, below a bound -/
def Below (n : Int) (d : D) : Prop := ∃ z, d = .int z ∧ 0 ≤ z ∧ z < n
theorem Below.int {n : Int} {d : D} (h : Below n d) : IntD d := let ⟨z, e, _⟩ := h; ⟨z, e⟩
theorem ed_modB {j : Int} (ha : PE X a (tN M r IntD)) (hb : PE X b (tD M r (.int j))) (hj : 0 < j) : PE X (.BinOp a .Mod b pos) (tN M r (Below j)) := ed_opN op_modN ha hb fun dx dy ⟨i, e1⟩ e2 => by
  subst e1; subst e2
  exact Op2.imp (op2_I (C := fun _ j => j ≠ 0) (dd := .int (i.fmod j)) (by omega) fun _ _ => rfl) fun d e => ⟨_, e, fmod_bd i hj⟩
theorem ed_toN {i : Int} (ha : PE X a (tD M r (.int i))) : PE X a (tN M r IntD) := ed_mono ha fun d e => ⟨i, e⟩
end
section
variable {X : Cx} {W : Wd} {H0 : Hp} {r : List Slot} {rest : List Stmt} {e : Expr} {pos : Pos} {ns : List Int} {N B C : L2.St → Hp → Prop}
theorem hs_retSrc {x y z : Int} (he : PE X e (tF (pw X) (vis r) (fun ds => ds = [.int x, .int y, .int z]))) : Hs X (.Return (some e) pos :: rest) (At (pw X) W H0 r) { nx := N, rt := fun v H' => SrcMade W H0 v H', bk := B, ct := C } := by
  refine hs_cons (M := fun _ _ => False) (ps_ret he) (fun σ H ⟨own, a⟩ => ?_) (hs_never fun _ _ h => h)
  refine ⟨W.adds (OwnS own), a.slots, a.ok', fun p vs H2 ds ks hp e h2 rs => ?_⟩
  subst ks
  refine ⟨p, rfl, a.ext.free a.ok hp, a.ext.trans (Ext.adds.mp e), x, y, z, ?_⟩
  rw [h2, RepL.ints (ns := [x, y, z]) rs]
  rfl
end
section
variable {P : Program} {w : World} {K : PySem.W.Frag} {mg : Str → Option Value} {base : Heap} {f C : Addr} {fd : FuncData}
theorem scMix : FnScope ["_law_cell", "_law_step", "_law_blend"] ["_law_cell", "_law_step"] (defScope sMix) := ⟨rfl, rfl, rfl, by decide +kernel, rfl, by decide +kernel, by decide +kernel⟩
abbrev spMix (M : MW) : Sp := spO M (fun i : Int × Int => [D.int i.1, .int i.2]) (fun _ => True) (fun _ d => IntD d)
theorem ok_mix (F : Fun K "_law_mix" "_law_mix" sMix f fd) : FnOk P w K mg base CX0 1 f fd ["_law_cell", "_law_step"] (spMix ⟨P, w⟩) := by
  refine fn_D F scMix (fun _ => rfl) (by decide) fun cdv A outer s H E W H0 i hr hp => ?_
  obtain ⟨a, b⟩ := i
  have c1 : ∀ {i : Int} {j : Int}, 0 < j → j.natAbs < 2 ^ 40 → CDivW i j := fun h1 h2 => wide_div h1 h2 (by decide) (by decide)
  have b1 := fmod_bd a (m := 2147483646) (by decide)
  refine hs_set (K := Below 2147483647) 2 (ed_modB (ed_toN (ed_mul (ed_add (ed_modN (dv 0) ed_int (by decide)) ed_int) (ed_add (ed_mul (dv 1) ed_int (.inr (by decide))) ed_int) (.inl (by show -(2 ^ 64) < a.fmod 2147483646 + 1 ∧ a.fmod 2147483646 + 1 < 2 ^ 64; omega)))) ed_int (by decide)) (fun d ⟨x, e, h1, h2⟩ => ?_) scMix.nd
  subst e
  have b2 := fmod_bd (a / 2147483646) (m := 1000003) (by decide)
  refine hs_set (K := Below 2147483629) 2 (ed_modB (ed_toN (ed_mul (ed_add (dv 2) (ed_mul (ed_modN (ed_fdivW (dv 0) ed_int (c1 (by decide) (by decide))) ed_int (by decide)) (ed_add (dv 1) ed_int) (.inl (by show -(2 ^ 64) < (a / 2147483646).fmod 1000003 ∧ (a / 2147483646).fmod 1000003 < 2 ^ 64; omega)))) ed_int (.inr (by decide)))) ed_int (by decide)) (fun d ⟨y, e, h3, h4⟩ => ?_) scMix.nd
  subst e
  refine hs_set (K := Below 2147483587) 2 (ed_modB (ed_toN (ed_mul (dv 2) (ed_add (ed_add (ed_fdivW (dv 2) ed_int (c1 (by decide) (by decide))) ed_int) (dv 1)) (.inl (by omega)))) ed_int (by decide)) (fun d ⟨z, e, h5, h6⟩ => ?_) scMix.nd
  subst e
  exact hs_ret (ed_modB (ed_toN (ed_mul (dv 2) (ed_add (ed_fdivW (dv 2) ed_int (c1 (by decide) (by decide))) ed_int) (.inl (by omega)))) ed_int (by decide)) fun d h => h.int
theorem scSource : FnScope ["_law_cell"] ["_law_cell"] (defScope sSource) := ⟨rfl, rfl, rfl, by decide +kernel, rfl, by decide +kernel, by decide +kernel⟩
theorem ok_source (F : Fun K "_law_source" "_law_source" sSource f fd) : FnOk P w K mg base CX0 1 f fd ["_law_cell"] (spSrc ⟨P, w⟩) := by
  refine fn_G F scSource (fun _ => rfl) (by decide) fun cdv A outer s H E W H0 c hr hp => ?_
  exact hs_retSrc (x := c) (y := c) (z := 0) (ef_lst (ea_cons (dv 0) (ea_cons (dv 0) (ea_cons ed_int ea_nil))))
abbrev NDr : List Str := ["_law_source_here", "_law_bound", "_law_drawn"]
theorem scDraw : FnScope NDr ["_law_source_here", "_law_bound"] (defScope sDraw) := ⟨rfl, rfl, rfl, by decide +kernel, rfl, by decide +kernel, by decide +kernel⟩
abbrev spDraw (M : MW) : Sp := spO M (fun n : Int => [D.src, .int n]) (fun n => 0 < n ∧ n.natAbs < 2 ^ 100) (fun n d => Below n d)
theorem ok_draw (c1 : PD.Cal P w K mg base 1 "_law_mix" ["_law_cell", "_law_step"] (spMix ⟨P, w⟩)) (F : Fun K "_law_draw" "_law_draw" sDraw f fd) : FnOk P w K mg base CX0 2 f fd ["_law_source_here", "_law_bound"] (spDraw ⟨P, w⟩) := by
  refine fn_D F scDraw (fun _ => rfl) (by decide) fun cdv A outer s H E W H0 n hr hp => ?_
  have hw : ∀ i, CDivW i n := fun i => wide_div hp.1 hp.2 (by decide) (by decide)
  refine hs_ifN (M := At ⟨P, w⟩ W H0 [.val .src, .val (.int n), .none]) (td_geN (ed_srcIx (dv 0) ed_int (by decide)) (ed_toN (ed_pow ed_int ed_int ⟨by decide, by decide, by decide⟩))) ?_ (hs_nil fun _ _ h => h) ?_
  · refine hs_set (K := Below n) 2 (ed_modB (ed_srcIx (dv 0) ed_int (by decide)) (dv 1) hp.1) (fun d ⟨z, e, h1, h2⟩ => ?_) scDraw.nd
    subst e
    refine hs_srcPut (ed_fdivWN (ed_srcIx (dv 0) ed_int (by decide)) (dv 1) hw) (dv 0) ed_int (by decide) ?_
    exact hs_retD (dv 2) ⟨z, rfl, h1, h2⟩
  · refine hs_srcPut (ed_addN (ed_srcIx (dv 0) ed_int (by decide)) ed_int) (dv 0) ed_int (by decide) ?_
    exact hs_ret (K := Below n) (ed_modB (ed_callN (Ka := fun ds => ∃ x y, ds = [.int x, .int y]) c1 hr (ea_consN (K := IntD) (Kr := fun ds => ∃ y, ds = [.int y]) (ed_srcIx (dv 0) ed_int (by decide)) (ea_consN (K := IntD) (Kr := fun ds => ds = []) (ed_srcIx (dv 0) ed_int (by decide)) ea_nil fun d ds ⟨y, e⟩ e2 => ⟨y, by rw [e, e2]⟩) fun d ds ⟨x, e⟩ ⟨y, e2⟩ => ⟨x, y, by rw [e, e2]⟩) fun ds ⟨x, y, e⟩ => ⟨(x, y), e, trivial, fun _ h => h⟩) (dv 1) hp.1) fun d h => h
theorem scChoice : FnScope ["_law_source_here", "_law_options"] ["_law_source_here", "_law_options"] (defScope sChoice) := ⟨rfl, rfl, rfl, by decide +kernel, rfl, by decide +kernel, by decide +kernel⟩
abbrev spChoice (M : MW) : Sp := spO M (fun ds : List D => [D.src, .lst ds]) (fun ds => 0 < ds.length ∧ ds.length < 1000000) (fun ds d => d ∈ ds)
theorem ok_choice (T : Txt mg) (c1 : PD.Cal P w K mg base 2 "_law_draw" ["_law_source_here", "_law_bound"] (spDraw ⟨P, w⟩)) (F : Fun K "_law_choice" "_law_choice" sChoice f fd) : FnOk P w K mg base CX0 3 f fd ["_law_source_here", "_law_options"] (spChoice ⟨P, w⟩) := by
  refine fn_D F scChoice (fun _ => rfl) (by decide) fun cdv A outer s H E W H0 ds hr hp => ?_
  exact hs_ret (K := fun d => d ∈ ds) (ed_ixAny (Kb := Below (ds.length : Nat)) (dv 1) (ed_call c1 ((ds.length : Nat) : Int) hr (ea_cons (dv 0) (ea_cons (ed_lenL T.len (ea_cons (dv 1) ea_nil)) ea_nil)) ⟨by omega, by
    have h := hp.2
    have h2 : (1000000 : Nat) < 2 ^ 100 := by decide
    rw [Int.natAbs_natCast]
    omega⟩ fun _ h => h) fun d ⟨z, e, h1, h2⟩ => ⟨z, e, h1, h2⟩) fun d h => h
end
end BR

set_option Elab.async false
set_option linter.all false
set_option maxRecDepth 100000
set_option maxHeartbeats 1000000
/-! W17: _law_days, _law_is_allowed. -/
namespace BR
open PySem L2 PySem.Spec PyProof.Rows PD
abbrev sDays : Stmt := top 43
abbrev sAllowed : Stmt := top 44
section
variable {X : Cx} {M : MW} {r : List (Option D)} {a b tg : Expr} {pos p : Pos} {Ka Ki : List D → Prop}
theorem ei_range2N (hm : X.mg "range" = none) (h : PA X [a, b] (tAN M r Ka)) (k : ∀ ds, Ka ds → ∃ l n : Int, ds = [.int l, .int n] ∧ (-(2 ^ 62) ≤ l ∧ l < 2 ^ 62 ∧ -(2 ^ 62) ≤ n ∧ n < 2 ^ 62) ∧ Ki ((List.range (n - l).toNat).map fun i => D.int (l + (i : Nat)))) (hg : Gl X "range" := by rfl)
    (hs : starEach [a, b] X.env = [(false, eval a X.env), (false, eval b X.env)] := by rfl) (hs2 : starEach [b] X.env = [(false, eval b X.env)] := by rfl) :
    PI X tg (.Call (.Name "range" p) [a, b] [] pos) (tIN M r Ki) := (pi_range2 hg hm h hs hs2).wk fun σ H R ⟨W, hs, ok, q⟩ => ⟨W, hs, ok, fun us H1 dd kd e1 rv => by
  obtain ⟨l, n, ed, bb, ki⟩ := k dd kd
  subst ed
  obtain ⟨v, rr, e, rv, v2, r2, e2, rv2, e3⟩ := rv
  rw [e2, show r2 = [] from e3, show v = V.int l from rv, show v2 = V.int n from rv2] at e
  exact ⟨l, n, e, bb, q _ H1 _ ki e1 itd_range⟩⟩
end
theorem ea_nil' {X : Cx} {M : MW} {r : List (Option D)} {Ks : List D → Prop} (h : ∀ ds, ds = [] → Ks ds) : PA X [] (tAN M r Ks) := (ea_nil (M := M) (r := r)).wk fun σ H Q ⟨W, hs, ok, q⟩ => ⟨W, hs, ok, fun vs H2 ds e => q vs H2 ds (h ds e)⟩
/-- a drawn day -/
def DayB (mo : Int) (day : Int) (p : Day) : Prop := 0 ≤ p.1 ∧ p.1 ≤ mo ∧ ∀ b, p.2 = some b → day + 1 ≤ b
def FarD (day : Int) (d : D) : Prop := ∃ o : Option Int, d = optD o ∧ ∀ b, o = some b → day + 1 ≤ b
def Fars (day : Int) (n : Nat) (ds : List D) : Prop := ds.length = n ∧ ∀ d ∈ ds, FarD day d
theorem fars_cons {day : Int} {n : Nat} {d : D} {ds : List D} (h1 : FarD day d) (h2 : Fars day n ds) : Fars day (n + 1) (d :: ds) := ⟨by rw [List.length_cons, h2.1], fun x hx => by
  rcases List.mem_cons.mp hx with e | e
  · rw [e]; exact h1
  · exact h2.2 x e⟩
theorem far_int {day z : Int} (h : day + 1 ≤ z) : FarD day (.int z) := ⟨some z, rfl, fun b e => by cases e; exact h⟩
theorem far_non {day : Int} : FarD day .non := ⟨none, rfl, fun b e => nomatch e⟩
/-- a drawn calendar -/
structure Drawn (md : Nat) (mo : Int) (c : Cal) : Prop where
  len : c.length ≤ md
  day : ∀ i p, c[i]? = some p → DayB mo ((i : Nat) + 1) p
section
variable {P : Program} {w : World} {K : PySem.W.Frag} {mg : Str → Option Value} {base : Heap} {f C : Addr} {fd : FuncData}
abbrev NDa : List Str := ["_law_source_here", "_law_most_days", "_law_most_owned", "_law_found", "_law_owned", "_law_day", "_law_far"]
theorem scDays : FnScope NDa ["_law_source_here", "_law_most_days", "_law_most_owned"] (defScope sDays) := ⟨rfl, rfl, rfl, by decide +kernel, rfl, by decide +kernel, by decide +kernel⟩
abbrev spDays (M : MW) : Sp := spO M (fun i : Nat × Int => [D.src, .int (i.1 : Nat), .int i.2]) (fun i => i.1 ≤ 4 ∧ 1 ≤ i.2 ∧ i.2 ≤ 3) (fun i d => ∃ c, d = calD c ∧ Drawn i.1 i.2 c)
theorem ok_days (T : Txt mg) (c1 : PD.Cal P w K mg base 2 "_law_draw" ["_law_source_here", "_law_bound"] (spDraw ⟨P, w⟩)) (c2 : PD.Cal P w K mg base 3 "_law_choice" ["_law_source_here", "_law_options"] (spChoice ⟨P, w⟩)) (F : Fun K "_law_days" "_law_days" sDays f fd) :
    FnOk P w K mg base CX0 4 f fd ["_law_source_here", "_law_most_days", "_law_most_owned"] (spDays ⟨P, w⟩) := by
  refine fn_D F scDays (fun _ => rfl) (by decide) fun cdv A outer s H E W H0 i hr hp => ?_
  obtain ⟨md, mo⟩ := i
  obtain ⟨h1, h2, h3⟩ := hp
  simp only at h1 h2 h3
  have small : ∀ n : Int, 0 < n → n ≤ 1000 → 0 < n ∧ n.natAbs < 2 ^ 100 := fun n a b => ⟨a, by
    have h2 : (1000000 : Nat) < 2 ^ 100 := by decide
    omega⟩
  refine hs_setNew 3 (ef_lst ea_nil) (fun ds e => ?_) (Nat.le_of_ble_eq_true rfl) scDays.nd
  subst e
  refine hs_set (K := fun d => ∃ z, d = .int z ∧ 0 ≤ z ∧ z ≤ mo) 4 (ed_opN (Ka := fun d => d = .int 1) (Kb := Below mo) op_add ed_int (ed_call c1 mo (hr.mono (by decide)) (ea_cons (dv 0) (ea_cons (dv 2) ea_nil)) (small mo (by omega) (by omega)) fun _ h => h) fun dx dy e1 ⟨z, e2, z1, z2⟩ => by
    subst e1; subst e2
    exact Op2.imp (op2_I0 (dd := .int (1 + z)) fun _ _ => rfl) fun d e => ⟨_, e, by omega, by omega⟩) (fun d ⟨o, e, o1, o2⟩ => ?_) scDays.nd
  subst e
  refine hs_forN (K' := fun d => ∃ c, d = calD c ∧ Drawn md mo c) (Ki := fun ds => ∃ n : Nat, n ≤ md ∧ ds = (List.range n).map fun i => D.int (1 + (i : Nat))) (fun ds j r => ∃ c : Cal, ∃ x5 x6 o, c.length = j ∧ (∀ i p, c[i]? = some p → DayB mo ((i : Nat) + 1) p) ∧ 0 ≤ o ∧ o ≤ mo ∧ r = [.val .src, .val (.int (md : Nat)), .val (.int mo), .own (c.map dayD), .val (.int o), x5, x6])
    (fun _ _ _ => False) rfl PassesOwn.never (ei_range2N (Ka := fun ds => ∃ z : Int, 0 ≤ z ∧ z ≤ (md : Nat) ∧ ds = [.int 1, .int (1 + z)]) T.range (ea_consN (K := fun d => d = .int 1) (Kr := fun ds => ∃ z : Int, 0 ≤ z ∧ z ≤ (md : Nat) ∧ ds = [.int (1 + z)]) ed_int
      (ea_consN (K := fun d => ∃ z : Int, 0 ≤ z ∧ z ≤ (md : Nat) ∧ d = .int (1 + z)) (Kr := fun ds => ds = []) (ed_opN (Ka := fun d => d = .int 1) (Kb := Below ((md : Nat) + 1)) op_add ed_int (ed_call c1 ((md : Nat) + 1) (hr.mono (by decide)) (ea_cons (dv 0) (ea_cons (ed_add (dv 1) ed_int) ea_nil)) (small _ (by omega) (by omega)) fun _ h => h) fun dx dy e1 ⟨z, e2, z1, z2⟩ => by
        subst e1; subst e2
        exact Op2.imp (op2_I0 (dd := .int (1 + z)) fun _ _ => rfl) fun d e => ⟨z, by omega, by omega, e⟩) ea_nil fun d ds ⟨z, z1, z2, e⟩ e2 => ⟨z, z1, z2, by rw [e, e2]⟩) fun d ds e ⟨z, z1, z2, e2⟩ => ⟨z, z1, z2, by rw [e, e2]⟩)
      (fun ds ⟨z, z1, z2, e⟩ => ⟨1, 1 + z, e, by omega, z.toNat, by omega, by rw [show (1 + z - 1).toNat = z.toNat by omega]⟩)) (pg_name (i := 5) scDays.nd rfl (.inl rfl))
    (fun ds _ => ⟨[], _, _, o, rfl, (fun i p h => by simp at h), o1, o2, rfl⟩) (fun d => [(5, d)]) (fun ds d _ _ => gd_name) ?_ (fun _ _ h => h) (fun _ _ _ _ _ h => h) ?_ (hs_never fun _ _ h => h)
  · rintro H1 ds j d r' ⟨n, hn, rfl⟩ hd ⟨c, x5, x6, o, hcl, hcd, o1, o2, rfl⟩
    obtain ⟨hj, rfl⟩ := range_at hd
    refine hs_ifN (M := fun σ H => ∃ z : { o : Int // 0 ≤ o ∧ o ≤ mo }, At ⟨P, w⟩ W H1 [.val .src, .val (.int (md : Nat)), .val (.int mo), .own (c.map dayD), .val (.int z.1), .val (.int (1 + (j : Nat))), x6] σ H)
      (td_eqN (ed_mono (ed_call c1 3 (hr.mono (by decide)) (ea_cons (dv 0) (ea_cons ed_int ea_nil)) (small 3 (by decide) (by decide)) fun _ h => h) fun d h => Below.int h) (ed_toN ed_int)) ?_ (hs_nil fun σ H h => ⟨⟨o, o1, o2⟩, h⟩) (hs_ex fun z => ?_)
    · refine hs_set (K := Below (mo + 1)) 4 (ed_call c1 (mo + 1) (hr.mono (by decide)) (ea_cons (dv 0) (ea_cons (ed_add (dv 2) ed_int) ea_nil)) (small _ (by omega) (by omega)) fun _ h => h) (fun d ⟨z, e, z1, z2⟩ => ?_) scDays.nd
      subst e
      exact hs_nil fun σ H h => ⟨⟨z, z1, by omega⟩, h⟩
    · obtain ⟨o, o1, o2⟩ := z
      have hfar : ∀ z : Int, (1 + (j : Nat) : Int) + 1 ≤ z → FarD (1 + (j : Nat)) (.int z) := fun z h => far_int h
      refine hs_set (K := fun d => ∃ ds, d = .lst ds ∧ Fars (1 + (j : Nat)) 7 ds) 6 (ed_new (ef_lstN (Ks := Fars (1 + (j : Nat)) 7)
        (ea_consN (K := FarD (1 + (j : Nat))) (Kr := Fars (1 + (j : Nat)) 6) (ed_mono (ed_add (dv 5) ed_int) fun d e => by rw [e]; exact far_int (Int.le_refl _))
        (ea_consN (K := FarD (1 + (j : Nat))) (Kr := Fars (1 + (j : Nat)) 5) (ed_mono (ed_add (dv 5) ed_int) fun d e => by rw [e]; exact far_int (Int.le_refl _))
        (ea_consN (K := FarD (1 + (j : Nat))) (Kr := Fars (1 + (j : Nat)) 4) (ed_mono (ed_add (dv 5) ed_int) fun d e => by rw [e]; exact far_int (by omega))
        (ea_consN (K := FarD (1 + (j : Nat))) (Kr := Fars (1 + (j : Nat)) 3) (ed_mono (ed_add (dv 5) ed_int) fun d e => by rw [e]; exact far_int (by omega))
        (ea_consN (K := FarD (1 + (j : Nat))) (Kr := Fars (1 + (j : Nat)) 2) (ed_opN (Ka := fun d => d = .int (1 + (j : Nat) + 1)) (Kb := Below 5) op_add (ed_add (dv 5) ed_int) (ed_call c1 5 (hr.mono (by decide)) (ea_cons (dv 0) (ea_cons ed_int ea_nil)) (small 5 (by decide) (by decide)) fun _ h => h) fun dx dy e1 ⟨z, e2, z1, z2⟩ => by
            subst e1; subst e2
            exact Op2.imp (op2_I0 (dd := .int (1 + (j : Nat) + 1 + z)) fun _ _ => rfl) fun d e => by rw [e]; exact far_int (by omega))
        (ea_consN (K := FarD (1 + (j : Nat))) (Kr := Fars (1 + (j : Nat)) 1) (ed_mono ed_non fun d e => by rw [e]; exact far_non)
        (ea_consN (K := FarD (1 + (j : Nat))) (Kr := Fars (1 + (j : Nat)) 0) (ed_mono (ed_pow ed_int ed_int ⟨by decide, by decide, by decide⟩) fun d e => by
            rw [e]
            refine far_int ?_
            have : (10 : Int) ^ (9 : Int).toNat = 1000000000 := by decide
            omega)
        (ea_nil' fun ds e => by rw [e]; exact ⟨rfl, fun _ h => nomatch h⟩) fun d ds => fars_cons) fun d ds => fars_cons) fun d ds => fars_cons) fun d ds => fars_cons) fun d ds => fars_cons) fun d ds => fars_cons) fun d ds => fars_cons)
        fun ds h => by rw [h.1]; exact Nat.le_of_ble_eq_true rfl) fun ds h => ⟨ds, rfl, h⟩) (fun d ⟨ds, e, hf⟩ => ?_) scDays.nd
      subst e
      refine hs_app (K := fun d => ∃ p, d = dayD p ∧ DayB mo (1 + (j : Nat)) p) 3 (pe_bm PySem.F.plainAttrs_list PySem.F.slot_list_append PySem.type_list_append (fun pins s σ H x xs v us Q I rx rs q => mt_append pins s σ H x xs v us Q I rx rs q) (ov 3) (pa_cons
        (ed_tupN (Ks := fun es => ∃ p : Day, es = [.int p.1, optD p.2] ∧ DayB mo (1 + (j : Nat)) p) (ea_consN (K := fun d => d = .int o) (Kr := fun es => ∃ b : Option Int, es = [optD b] ∧ ∀ z, b = some z → (1 + (j : Nat) : Int) + 1 ≤ z) (dv 4) (ea_consN (K := FarD (1 + (j : Nat))) (Kr := fun es => es = [])
          (ed_call c2 ds hr (ea_cons (dv 0) (ea_cons (dv 6) ea_nil)) ⟨by rw [hf.1]; decide, by rw [hf.1]; decide⟩ fun d hd => hf.2 d hd) ea_nil fun d es ⟨b, e1, e2⟩ e3 => ⟨b, by rw [e1, e3], e2⟩) fun d es e1 ⟨b, e2, e3⟩ => ⟨(o, b), by rw [e1, e2], o1, o2, e3⟩)
          fun es ⟨p, e, h⟩ => ⟨by rw [e]; exact Nat.le_of_ble_eq_true rfl, p, by rw [e], h⟩) pa_nil)) rfl (by rw [List.length_map, hcl, sizeLine_eq]; omega) fun d ⟨p, e, hp⟩ => ?_
      subst e
      refine hs_nil fun σ H h => ⟨_, ⟨c ++ [p], _, _, o, by simp [hcl], fun i q hq => ?_, o1, o2, by rw [List.map_append]; rfl⟩, h⟩
      rcases Nat.lt_or_ge i c.length with hi | hi
      · rw [List.getElem?_append_left hi] at hq
        exact hcd i q hq
      · rw [List.getElem?_append_right hi] at hq
        have : i = c.length := by
          have := (List.getElem?_eq_some_iff.mp hq).1
          simp at this
          omega
        subst this
        simp at hq
        subst hq
        rw [hcl, show ((j : Nat) : Int) + 1 = 1 + (j : Nat) by omega]
        exact hp
  · rintro ds r' ⟨n, hn, rfl⟩ ⟨c, x5, x6, o, hcl, hcd, o1, o2, rfl⟩
    rw [List.length_map, List.length_range] at hcl
    exact hs_frz 3 rfl (hs_ret (K := fun d => d = calD c) (dv 3) fun d e => ⟨c, e, by omega, hcd⟩)
end
end BR

set_option Elab.async false
set_option linter.all false
set_option maxRecDepth 100000
set_option maxHeartbeats 1000000
/-! W18: _law_is_allowed, _law_rows. -/
namespace BR
open PySem L2 PySem.Spec PyProof.Rows PD
abbrev sRows : Stmt := top 45
def backAfter (b : Option Int) (day : Int) : Bool := match b with
  | none => true
  | some i => decide (day < i)
def awayL (c : Cal) (nums : List Int) (day : Int) : List Int := (nums.take (day - 1).toNat).mapIdx fun i x => x * (if backAfter (c.getD i (0, none)).2 day then 1 else 0)
def hereL (c : Cal) (nums : List Int) (day : Int) : Int := (if day ≤ (nums.length : Int) then nums.getD (day - 1).toNat 0 else 0) + (awayL c nums day).sum
def allowedL (c : Cal) (nums : List Int) : Bool := (upTo 1 c.length).all fun day => decide (hereL c nums day ≤ at1 (owned c) day)
theorem take_sum_succ {l : List Int} {j : Nat} {x : Int} (h : l[j]? = some x) : (l.take (j + 1)).sum = (l.take j).sum + x := by
  rw [take_snoc h, List.sum_append]; simp
section
variable {P : Program} {w : World} {K : PySem.W.Frag} {mg : Str → Option Value} {base : Heap} {f C : Addr} {fd : FuncData}
abbrev NAl : List Str := ["_law_days_in", "_law_numbers", "_law_day", "_law_owned", "_law_back", "_law_here", "_law_earlier", "_law_number", "_law_later"]
theorem scAl : FnScope NAl ["_law_days_in", "_law_numbers"] (defScope sAllowed) := ⟨rfl, rfl, rfl, by decide +kernel, rfl, by decide +kernel, by decide +kernel⟩
abbrev spAl (M : MW) : Sp := spO M (fun i : Cal × List Int => [calD i.1, rowD i.2]) (fun i => i.1.length ≤ 100 ∧ i.2.length ≤ i.1.length) (fun i d => d = .bl (allowedL i.1 i.2))
def uAl : D → List (Nat × D)
  | .tup [a, .tup [b, c]] => [(2, a), (3, b), (4, c)]
  | _ => []
def uAl2 : D → List (Nat × D)
  | .tup [a, b] => [(6, a), (7, b)]
  | _ => []
theorem ok_allowed (T : Txt mg) (F : Fun K "_law_is_allowed" "_law_is_allowed" sAllowed f fd) : FnOk P w K mg base CX0 1 f fd ["_law_days_in", "_law_numbers"] (spAl ⟨P, w⟩) := by
  refine fn_D F scAl (fun _ => rfl) (by decide) fun cdv A outer s H E W H0 i hr hp => ?_
  obtain ⟨c, nums⟩ := i
  obtain ⟨hcl, hnl⟩ := hp
  simp only at hcl hnl
  refine hs_for (K' := fun d => d = .bl (allowedL c nums)) (fun j r => ∃ x2 x3 x4 x5 x6 x7 x8, (∀ i : Nat, i < j → hereL c nums (1 + (i : Nat)) ≤ at1 (owned c) (1 + (i : Nat))) ∧ r = [.val (calD c), .val (rowD nums), x2, x3, x4, x5, x6, x7, x8])
    rfl PassesOwn.never (ei_enK (b := false) (ds := c.map dayD) (k := 1) T.enumerate (ea_cons (dv 0) ea_nil) (ek_one ed_int) rfl (by decide))
    (pg_tup (n := 2) rfl (pgs_cons (pg_name (i := 2) scAl.nd rfl (.inl rfl)) (pgs_cons (pg_tup (n := 2) rfl (pgs_cons (pg_name (i := 3) scAl.nd rfl (.inl rfl)) (pgs_cons (pg_name (i := 4) scAl.nd rfl (.inl rfl)) pgs_nil))) pgs_nil)))
    ⟨_, _, _, _, _, _, _, (fun i h => absurd h (Nat.not_lt_zero i)), rfl⟩ uAl (fun d hd => ?_) ?_ (fun _ _ h => h) ?_
  · obtain ⟨j, hj⟩ := List.getElem?_of_mem hd
    obtain ⟨p, _, e⟩ := enumD_at hj
    subst e
    exact gd_tup (gd_cons gd_name (gd_cons (gd_tup (gd_cons gd_name (gd_cons gd_name gd_nil))) gd_nil))
  · rintro H1 j d r' hd ⟨x2, x3, x4, x5, x6, x7, x8, hok, rfl⟩
    obtain ⟨p, hp, e⟩ := enumD_at hd
    subst e
    have hj : j < c.length := (List.getElem?_eq_some_iff.mp hp).1
    generalize hday : (1 : Int) + (j : Nat) = day
    have hday1 : 1 ≤ day ∧ day ≤ c.length := by omega
    have hown : at1 (owned c) day = p.1 := by
      unfold at1 owned
      rw [List.getD_eq_getElem?_getD, List.getElem?_map, show (day - 1).toNat = j by omega, hp]
      rfl
    refine hs_setD 5 (d := .int (if day ≤ (nums.length : Int) then nums.getD (day - 1).toNat 0 else 0)) (ed_if (k := decide (day ≤ (nums.length : Int))) (tt_is (td_le (dv 2) (ed_lenT T.len (ea_cons (dv 1) ea_nil))) (by rw [List.length_map])) (fun h => ?_) (fun h => ?_)) ?_ scAl.nd
    · have h : day ≤ (nums.length : Int) := by simpa using h
      rw [if_pos h]
      exact ed_ixT (dv 1) (ed_sub (dv 2) ed_int) (at_map (z := 0) (by omega) (by omega))
    · have h : ¬ day ≤ (nums.length : Int) := by simpa using h
      rw [if_neg h]
      exact ed_int
    refine hs_for (K' := fun d => d = .bl (allowedL c nums)) (fun k r => ∃ x6 x7 x8, r = [.val (calD c), .val (rowD nums), .val (.int day), .val (.int p.1), .val (optD p.2), .val (.int ((if day ≤ (nums.length : Int) then nums.getD (day - 1).toNat 0 else 0) + ((awayL c nums day).take k).sum)), x6, x7, x8])
      rfl PassesOwn.never (ei_en (b := true) (ds := (nums.take (day - 1).toNat).map D.int) T.enumerate (ea_cons (ed_is (ed_sliceT (dv 1) eo_none (eo_some (ed_sub (dv 2) ed_int))) (by rw [show day - 1 = ((day - 1).toNat : Int) by omega, cut_take, Int.toNat_natCast, List.map_take]; rfl)) ea_nil) rfl)
      (pg_tup (n := 2) rfl (pgs_cons (pg_name (i := 6) scAl.nd rfl (.inl rfl)) (pgs_cons (pg_name (i := 7) scAl.nd rfl (.inl rfl)) pgs_nil))) ⟨_, _, _, by rw [List.take_zero, List.sum_nil, Int.add_zero]; rfl⟩ uAl2 (fun d hd => ?_) ?_ (fun _ _ h => h) ?_
    · obtain ⟨k, hk⟩ := List.getElem?_of_mem hd
      obtain ⟨x, _, e⟩ := enumD_at hk
      subst e
      exact gd_tup (gd_cons gd_name (gd_cons gd_name gd_nil))
    · rintro H2 k d r' hd ⟨x6, x7, x8, rfl⟩
      obtain ⟨x, hx, e⟩ := enumD_at hd
      subst e
      have hk0 : (0 : Int) + (k : Nat) = (k : Nat) := by omega
      rw [hk0]
      have hkl : k < (day - 1).toNat ∧ k < nums.length := by
        have := (List.getElem?_eq_some_iff.mp hx).1
        rw [List.length_take] at this
        omega
      have hkc : k < c.length := by omega
      have haw : (awayL c nums day)[k]? = some (x * (if backAfter (c.getD k (0, none)).2 day then 1 else 0)) := by
        unfold awayL
        rw [List.getElem?_mapIdx, hx]
        rfl
      have hck : atI (c.map dayD) (k : Nat) = some (dayD (c.getD k (0, none))) := at_map (g := dayD) (i := ((k : Nat) : Int)) (z := (0, none)) (by omega) (by omega)
      generalize c.getD k (0, none) = q at haw hck
      refine hs_setD 8 (d := optD q.2) (ed_ixT (ed_ixL (dv 0) (dv 6) hck) ed_int) ?_ scAl.nd
      refine hs_setD 5 (d := .int ((if day ≤ (nums.length : Int) then nums.getD (day - 1).toNat 0 else 0) + ((awayL c nums day).take (k + 1)).sum)) (ed_is (ed_add (dv 5) (ed_mul (dv 7) (ed_callTy (T := "int") call_int1 (c1_intB (k := backAfter q.2 day)) T.int boot_int (ea_cons ?_ ea_nil)) (.inr (by split <;> decide)))) (by rw [take_sum_succ haw]; congr 1; omega)) ?_ scAl.nd
      · obtain ⟨qo, qb⟩ := q
        cases qb with
        | none => exact ed_is (ed_or (k := true) (l := false) (ed_isN (da := .non) (dv 8)) (fun h => nomatch h)) rfl
        | some b => exact ed_is (ed_or (k := false) (ed_isN (da := .int b) (dv 8)) (fun _ => ed_one (ed_gt (dv 8) (dv 2)))) (by simp [backAfter])
      · exact hs_nil fun σ H h => ⟨_, ⟨_, _, _, rfl⟩, h⟩
    · rintro r' ⟨x6, x7, x8, rfl⟩
      have hlen : ((awayL c nums day).take (enumD 0 ((nums.take (day - 1).toNat).map D.int)).length) = awayL c nums day := by
        refine List.take_of_length_le ?_
        unfold awayL enumD
        simp
      rw [hlen]
      show Hs _ _ (At _ _ _ [.val (calD c), .val (rowD nums), .val (.int day), .val (.int p.1), .val (optD p.2), .val (.int (hereL c nums day)), x6, x7, x8]) _
      refine hs_if (M := fun σ H => ∃ r', (∃ x2 x3 x4 x5 x6 x7 x8, (∀ i : Nat, i < j + 1 → hereL c nums (1 + (i : Nat)) ≤ at1 (owned c) (1 + (i : Nat))) ∧ r' = [.val (calD c), .val (rowD nums), x2, x3, x4, x5, x6, x7, x8]) ∧ At ⟨P, w⟩ W H1 r' σ H)
        (td_gt (dv 5) (dv 3)) (fun hb => ?_) (fun hb => ?_) (hs_nil fun σ H h => h)
      · have hb : p.1 < hereL c nums day := by simpa using hb
        refine hs_retD (d := .bl false) ed_bl ?_
        congr 1
        refine (Bool.eq_false_iff.mpr fun z => ?_).symm
        unfold allowedL at z
        have := List.all_eq_true.mp z day (upTo_mem'.mpr ⟨by omega, by omega⟩)
        simp only [decide_eq_true_eq] at this
        omega
      · have hb : ¬ p.1 < hereL c nums day := by simpa using hb
        refine hs_nil fun σ H h => ⟨_, ⟨_, _, _, _, _, _, _, fun i hi => ?_, rfl⟩, h⟩
        by_cases z : i = j
        · subst z
          rw [hday]; omega
        · exact hok i (by omega)
  · rintro r' ⟨x2, x3, x4, x5, x6, x7, x8, hok, rfl⟩
    refine hs_retD (d := .bl true) ed_bl ?_
    congr 1
    refine (show allowedL c nums = true from List.all_eq_true.mpr fun day hd => ?_).symm
    have hd := upTo_mem'.mp hd
    have := hok (day - 1).toNat (by unfold enumD; rw [List.length_mapIdx, List.length_map]; omega)
    rw [show (1 : Int) + ((day - 1).toNat : Nat) = day by omega] at this
    exact decide_eq_true this
end
end BR

set_option Elab.async false
set_option linter.all false
set_option maxRecDepth 100000
set_option maxHeartbeats 1000000
/-! W19: _law_rows, _law_prices. -/
namespace BR
open PySem L2 PySem.Spec PyProof.Rows PD
abbrev sPrices : Stmt := top 46
def downTo (o : Int) : List Int := (List.range (o + 1).toNat).map fun i : Nat => o - (i : Int)
def stepRows (c : Cal) (o : Int) (past : List Int) : List (List Int) := ((downTo o).filter fun x => allowedL c (past ++ [x])).map fun x => past ++ [x]
/-- the beginnings of rows, as the law makes them -/
def rowsN (c : Cal) : Nat → List (List Int)
  | 0 => [[]]
  | i + 1 => (rowsN c i).flatMap (stepRows c (at1 (owned c) ((i : Nat) + 1)))
theorem rowsN_len {c : Cal} : ∀ {i : Nat} {row : List Int}, row ∈ rowsN c i → row.length = i
  | 0, row, h => by rw [List.mem_singleton.mp h]; rfl
  | i + 1, row, h => by
    obtain ⟨past, h1, h2⟩ := List.mem_flatMap.mp h
    unfold stepRows at h2
    obtain ⟨x, _, e⟩ := List.mem_map.mp h2
    rw [← e, List.length_append, rowsN_len h1]; rfl
theorem stepRows_len {c : Cal} {o : Int} {past : List Int} (h : o ≤ 12) : (stepRows c o past).length ≤ 13 := by
  unfold stepRows downTo
  rw [List.length_map]
  refine Nat.le_trans (List.length_filter_le _ _) ?_
  rw [List.length_map, List.length_range]
  omega
theorem fm_step_len {c : Cal} {o : Int} (h : o ≤ 12) : ∀ {l : List (List Int)}, (l.flatMap (stepRows c o)).length ≤ 13 * l.length
  | [] => by simp
  | a :: l => by
    have h1 := stepRows_len (c := c) (past := a) h
    have h2 := fm_step_len (c := c) h (l := l)
    rw [List.flatMap_cons, List.length_append, List.length_cons]
    omega
theorem rowsN_size {c : Cal} (ho : ∀ d, at1 (owned c) d ≤ 12) : ∀ {i : Nat}, i ≤ 4 → (rowsN c i).length ≤ 13 ^ i
  | 0, _ => Nat.le_refl _
  | i + 1, h => by
    have h1 := rowsN_size ho (i := i) (by omega)
    have h2 := fm_step_len (c := c) (ho ((i : Nat) + 1)) (l := rowsN c i)
    show ((rowsN c i).flatMap _).length ≤ _
    rw [Nat.pow_succ]
    omega
theorem rowsN_small {c : Cal} (ho : ∀ d, at1 (owned c) d ≤ 12) {i : Nat} (h : i ≤ 4) : (rowsN c i).length ≤ 28561 := Nat.le_trans (rowsN_size ho h) (by
  have : 13 ^ i ≤ 13 ^ 4 := Nat.pow_le_pow_right (by decide) h
  omega)
/-- a calendar of few days -/
structure RowsIn (c : Cal) : Prop where
  len : c.length ≤ 4
  own0 : ∀ d, 0 ≤ at1 (owned c) d
  own : ∀ d, at1 (owned c) d ≤ 12
section
variable {P : Program} {w : World} {K : PySem.W.Frag} {mg : Str → Option Value} {base : Heap} {f C : Addr} {fd : FuncData}
abbrev NRo : List Str := ["_law_days_in", "_law_found", "_law_owned", "_law_back", "_law_longer", "_law_past", "_law_number"]
theorem scRo : FnScope NRo ["_law_days_in"] (defScope sRows) := ⟨rfl, rfl, rfl, by decide +kernel, rfl, by decide +kernel, by decide +kernel⟩
abbrev spRo (M : MW) : Sp := spO M (fun c : Cal => [calD c]) RowsIn (fun c d => d = .lst ((rowsN c c.length).map rowD))
def uRo : D → List (Nat × D)
  | .tup [a, b] => [(2, a), (3, b)]
  | _ => []
theorem ok_rows (T : Txt mg) (c1 : PD.Cal P w K mg base 1 "_law_is_allowed" ["_law_days_in", "_law_numbers"] (spAl ⟨P, w⟩)) (F : Fun K "_law_rows" "_law_rows" sRows f fd) : FnOk P w K mg base CX0 2 f fd ["_law_days_in"] (spRo ⟨P, w⟩) := by
  refine fn_D F scRo (fun _ => rfl) (by decide) fun cdv A outer s H E W H0 c hr hp => ?_
  obtain ⟨hl, ho0, ho⟩ := hp
  refine hs_setD 1 (d := .lst ((rowsN c 0).map rowD)) (ed_lst (ea_cons (ed_tup (ds := []) ea_nil) ea_nil)) ?_ scRo.nd
  refine hs_for (K' := fun d => d = .lst ((rowsN c c.length).map rowD)) (fun j r => ∃ x2 x3 x4 x5 x6, r = [.val (calD c), .val (.lst ((rowsN c j).map rowD)), x2, x3, x4, x5, x6])
    rfl PassesOwn.never (ei_list (dv 0)) (pg_tup (n := 2) rfl (pgs_cons (pg_name (i := 2) scRo.nd rfl (.inl rfl)) (pgs_cons (pg_name (i := 3) scRo.nd rfl (.inl rfl)) pgs_nil))) ⟨_, _, _, _, _, rfl⟩ uRo (fun d hd => ?_) ?_ (fun _ _ h => h) ?_
  · obtain ⟨p, _, rfl⟩ := List.mem_map.mp hd
    exact gd_tup (gd_cons gd_name (gd_cons gd_name gd_nil))
  · rintro H1 j d r' hd ⟨x2, x3, x4, x5, x6, rfl⟩
    obtain ⟨p, hpj, rfl⟩ : ∃ p, c[j]? = some p ∧ d = dayD p := by
      rw [List.getElem?_map] at hd
      cases q : c[j]? with
      | none => rw [q] at hd; cases hd
      | some p => rw [q] at hd; exact ⟨p, rfl, by simpa using hd.symm⟩
    have hj : j < c.length := (List.getElem?_eq_some_iff.mp hpj).1
    have hown : at1 (owned c) ((j : Nat) + 1) = p.1 := by
      unfold at1 owned
      rw [List.getD_eq_getElem?_getD, List.getElem?_map, show ((j : Nat) + 1 - 1 : Int).toNat = j by omega, hpj]
      rfl
    have hp12 := ho ((j : Nat) + 1)
    have hp0 := ho0 ((j : Nat) + 1)
    have hsz := rowsN_small ho (i := j) (by omega)
    have hnx : rowsN c (j + 1) = (rowsN c j).flatMap (stepRows c p.1) := by rw [← hown]; rfl
    rw [hown] at hp12 hp0
    have hrl : ∀ past ∈ rowsN c j, past.length = j := fun past h => rowsN_len h
    rw [hnx]
    generalize rowsN c j = rs at hsz hrl
    refine hs_setNew 4 (ef_lst ea_nil) (fun ds e => ?_) (Nat.le_of_ble_eq_true rfl) scRo.nd
    subst e
    refine hs_for (K' := fun d => d = .lst ((rowsN c c.length).map rowD)) (fun k r => ∃ x5 x6, r = [.val (calD c), .val (.lst (rs.map rowD)), .val (.int p.1), .val (optD p.2), .own (((rs.take k).flatMap (stepRows c p.1)).map rowD), x5, x6])
      rfl PassesOwn.never (ei_list (dv 1)) (pg_name (i := 5) scRo.nd rfl (.inl rfl)) ⟨_, _, rfl⟩ (fun d => [(5, d)]) (fun d _ => gd_name) ?_ (fun _ _ h => h) ?_
    · rintro H2 k d r' hd ⟨x5, x6, rfl⟩
      obtain ⟨past, hpast, rfl⟩ : ∃ past, rs[k]? = some past ∧ d = rowD past := by
        rw [List.getElem?_map] at hd
        cases q : rs[k]? with
        | none => rw [q] at hd; cases hd
        | some past => rw [q] at hd; exact ⟨past, rfl, by simpa using hd.symm⟩
      have hpl := hrl past (List.mem_of_getElem? hpast)
      have hfl := fm_step_len (c := c) hp12 (l := rs.take k)
      rw [List.length_take] at hfl
      rw [take_snoc hpast, List.flatMap_append, show ([past].flatMap (stepRows c p.1)) = stepRows c p.1 past by simp]
      generalize (rs.take k).flatMap (stepRows c p.1) = Acc at hfl
      have hdl : (downTo p.1).length = (p.1 + 1).toNat := by unfold downTo; simp
      refine hs_for (K' := fun d => d = .lst ((rowsN c c.length).map rowD)) (fun m r => ∃ x6, r = [.val (calD c), .val (.lst (rs.map rowD)), .val (.int p.1), .val (optD p.2), .own ((Acc ++ (((downTo p.1).take m).filter fun x => allowedL c (past ++ [x])).map fun x => past ++ [x]).map rowD), .val (rowD past), x6])
        rfl PassesOwn.never (ei_range3 (i := p.1) (j := -1) T.range (ea_cons (dv 2) (ea_cons (ed_neg ed_int) (ea_cons (ed_neg ed_int) ea_nil))) (by omega)) (pg_name (i := 6) scRo.nd rfl (.inl rfl)) ⟨_, by rw [List.take_zero]; simp; rfl⟩ (fun d => [(6, d)]) (fun d _ => gd_name) ?_ (fun _ _ h => h) ?_
      · rintro H3 m d r' hd ⟨x6, rfl⟩
        obtain ⟨hm, rfl⟩ : m < (p.1 + 1).toNat ∧ d = .int (p.1 - (m : Nat)) := by
          rw [List.getElem?_map] at hd
          have hm : m < (p.1 - -1).toNat := by
            rcases Nat.lt_or_ge m (p.1 - -1).toNat with q | q
            · exact q
            · rw [List.getElem?_eq_none (by simpa using q)] at hd; cases hd
          rw [List.getElem?_range hm] at hd
          have hd : D.int (p.1 + (m : Nat) * (-1)) = d := by simpa using hd
          refine ⟨by omega, ?_⟩
          rw [← hd]
          congr 1
          omega
        have hdm : (downTo p.1)[m]? = some (p.1 - (m : Nat)) := by
          unfold downTo
          rw [List.getElem?_map, List.getElem?_range hm]
          rfl
        rw [take_snoc hdm, show (Acc ++ (((downTo p.1).take m ++ [p.1 - (m : Nat)]).filter fun x => allowedL c (past ++ [x])).map fun x => past ++ [x]) = (Acc ++ (((downTo p.1).take m).filter fun x => allowedL c (past ++ [x])).map fun x => past ++ [x]) ++ (([p.1 - (m : Nat)].filter fun x => allowedL c (past ++ [x])).map fun x => past ++ [x]) from by rw [List.filter_append, List.map_append, List.append_assoc]]
        have hcat : ∀ {r : List (Option D)}, r[5]? = some (some (rowD past)) → r[6]? = some (some (D.int (p.1 - (m : Nat)))) → True := fun _ _ => trivial
        have hfl2 : (Acc ++ (((downTo p.1).take m).filter fun x => allowedL c (past ++ [x])).map fun x => past ++ [x]).length ≤ 13 * 28561 + 13 := by
          rw [List.length_append, List.length_map]
          have := List.length_filter_le (fun x => allowedL c (past ++ [x])) ((downTo p.1).take m)
          rw [List.length_take] at this
          omega
        generalize (Acc ++ (((downTo p.1).take m).filter fun x => allowedL c (past ++ [x])).map fun x => past ++ [x]) = Acc2 at hfl2
        refine hs_if (M := fun σ H => ∃ r', (∃ x6, r' = [.val (calD c), .val (.lst (rs.map rowD)), .val (.int p.1), .val (optD p.2), .own ((Acc2 ++ (([p.1 - (m : Nat)].filter fun x => allowedL c (past ++ [x])).map fun x => past ++ [x])).map rowD), .val (rowD past), x6]) ∧ At ⟨P, w⟩ W H3 r' σ H)
          (td_val (ed_call c1 (c, past ++ [p.1 - (m : Nat)]) hr (ea_cons (dv 0) (ea_cons (ed_is (ed_catT (es' := [.int (p.1 - (m : Nat))]) (dv 5) (ed_tup (ea_cons (dv 6) ea_nil)) (by rw [List.length_map, sizeLine_eq]; simp only [List.length_cons, List.length_nil]; omega)) (by show D.tup _ = D.tup _; rw [List.map_append]; rfl)) ea_nil)) ⟨by show c.length ≤ 100; omega, by show (past ++ [p.1 - (m : Nat)]).length ≤ c.length; rw [List.length_append, List.length_singleton]; omega⟩ fun _ h => h)) (fun hb => ?_) (fun hb => ?_) (hs_nil fun σ H h => h)
        · refine hs_app (K := fun d => d = rowD (past ++ [p.1 - (m : Nat)])) 4 (pe_bm PySem.F.plainAttrs_list PySem.F.slot_list_append PySem.type_list_append (fun pins s σ H x xs v us Q I rx rs q => mt_append pins s σ H x xs v us Q I rx rs q) (ov 4) (pa_cons
            (ed_is (ed_catT (es' := [.int (p.1 - (m : Nat))]) (dv 5) (ed_tup (ea_cons (dv 6) ea_nil)) (by rw [List.length_map, sizeLine_eq]; simp only [List.length_cons, List.length_nil]; omega)) (by show D.tup _ = D.tup _; rw [List.map_append]; rfl)) pa_nil)) rfl (by rw [List.length_map, sizeLine_eq]; omega) fun d e => hs_nil fun σ H h => ⟨_, ⟨.val (.int (p.1 - (m : Nat))), ?_⟩, h⟩
          subst e
          rw [List.filter_cons, if_pos hb]
          simp
          rfl
        · refine hs_nil fun σ H h => ⟨_, ⟨.val (.int (p.1 - (m : Nat))), ?_⟩, h⟩
          rw [List.filter_cons, if_neg (by rw [hb]; simp)]
          simp
          rfl
      · rintro r' ⟨x6, rfl⟩
        refine hs_nil fun σ H h => ⟨_, ⟨.val (rowD past), x6, ?_⟩, h⟩
        rw [List.length_map, List.length_range, List.take_of_length_le (by rw [hdl]; omega)]
        rfl
    · rintro r' ⟨x5, x6, rfl⟩
      rw [List.length_map, List.take_length]
      refine hs_frz 4 rfl (hs_setD 1 (dv 4) ?_ scRo.nd)
      exact hs_nil fun σ H h => ⟨_, ⟨_, _, _, _, _, rfl⟩, h⟩
  · rintro r' ⟨x2, x3, x4, x5, x6, rfl⟩
    rw [List.length_map]
    exact hs_retD (dv 1) rfl
abbrev NPr : List Str := ["_law_source_here", "_law_days_in", "_law_wide", "_law_found", "_law_day", "_law_some", "_law_part"]
theorem scPr : FnScope NPr ["_law_source_here", "_law_days_in", "_law_wide"] (defScope sPrices) := ⟨rfl, rfl, rfl, by decide +kernel, rfl, by decide +kernel, by decide +kernel⟩
/-- drawn prices -/
def PriceB (m : Int) (p : Price) : Prop := (0 ≤ p.1 ∧ p.1 ≤ m) ∧ (0 ≤ p.2.1 ∧ p.2.1 ≤ m) ∧ 0 ≤ p.2.2 ∧ p.2.2 ≤ m
structure PricesB (n : Nat) (m : Int) (ps : List Price) : Prop where
  len : ps.length = n
  bd : ∀ p ∈ ps, PriceB m p
theorem PricesB.ok {n : Nat} {m : Int} {ps : List Price} (h : PricesB n m ps) : PrOk ps := fun p hp => let ⟨a, b, c⟩ := h.bd p hp; ⟨a.1, b.1, c.1⟩
abbrev spPr (M : MW) : Sp := spO M (fun c : Cal => [D.src, calD c, .int 3]) (fun c => c.length ≤ 100) (fun c d => ∃ ps, d = pricesD ps ∧ PricesB c.length 6 ps)
theorem ok_prices (T : Txt mg) (c1 : PD.Cal P w K mg base 2 "_law_draw" ["_law_source_here", "_law_bound"] (spDraw ⟨P, w⟩)) (c2 : PD.Cal P w K mg base 3 "_law_choice" ["_law_source_here", "_law_options"] (spChoice ⟨P, w⟩)) (F : Fun K "_law_prices" "_law_prices" sPrices f fd) :
    FnOk P w K mg base CX0 4 f fd ["_law_source_here", "_law_days_in", "_law_wide"] (spPr ⟨P, w⟩) := by
  refine fn_D F scPr (fun _ => rfl) (by decide) fun cdv A outer s H E W H0 c hr hp => ?_
  refine hs_setNew 3 (ef_lst ea_nil) (fun ds e => ?_) (Nat.le_of_ble_eq_true rfl) scPr.nd
  subst e
  refine hs_for (K' := fun d => ∃ ps, d = pricesD ps ∧ PricesB c.length 6 ps) (fun j r => ∃ ps x4 x5, PricesB j 6 ps ∧ r = [.val .src, .val (calD c), .val (.int 3), .own (ps.map priceD), x4, x5, .none])
    rfl PassesOwn.never (ei_list (dv 1)) (pg_name (i := 4) scPr.nd rfl (.inl rfl)) ⟨[], _, _, ⟨rfl, fun _ h => nomatch h⟩, rfl⟩ (fun d => [(4, d)]) (fun d _ => gd_name) ?_ (fun _ _ h => h) ?_
  · rintro H1 j d r' hd ⟨ps, x4, x5, hps, rfl⟩
    have hj : j < c.length := by
      have := (List.getElem?_eq_some_iff.mp hd).1
      rwa [List.length_map] at this
    refine hs_setLc 5 (upTo 0 3) D.int (fun i => [(6, .int i)]) (fun _ => true) (fun _ d => Below 7 d) rfl scPr.nd (by rw [upTo_enc]; exact ei_range1 (n := 3) T.range (ea_cons ed_int ea_nil) (by decide) (by decide)) (blkOk_by (own := [("_law_part", 6)]) (by rfl))
      (fun s H C cl fp => pg_name (i := 6) scPr.nd rfl (.inl rfl)) (fun i _ => gd_name) (fun i _ q hq => by simp at hq; subst hq; simp) (fun i _ s H C cl fp => td_tests)
      (fun i _ _ s H C cl fp => ed_callN (Ka := fun ds => ∃ n : Int, ds = [.src, .int n] ∧ 1 ≤ n ∧ n ≤ 7) c1 (hr.mono (by decide)) (ea_consN (K := fun d => d = .src) (Kr := fun ds => ∃ n : Int, ds = [.int n] ∧ 1 ≤ n ∧ n ≤ 7) (dv 0)
        (ea_consN (K := fun d => ∃ n : Int, d = .int n ∧ 1 ≤ n ∧ n ≤ 7) (Kr := fun ds => ds = []) (ed_call c2 [.int 1, .int 3, .int 7, .int 3] hr (ea_cons (dv 0) (ea_cons (ed_lst (ea_cons ed_int (ea_cons ed_int (ea_cons ed_int (ea_cons (dv 2) ea_nil))))) ea_nil)) ⟨by decide, by decide⟩ fun d hd => by
            simp only [List.mem_cons, List.mem_singleton, List.not_mem_nil, or_false] at hd
            rcases hd with e | e | e | e
            · exact ⟨1, e, by decide, by decide⟩
            · exact ⟨3, e, by decide, by decide⟩
            · exact ⟨7, e, by decide, by decide⟩
            · exact ⟨3, e, by decide, by decide⟩) ea_nil fun d ds ⟨n, e, h⟩ e2 => ⟨n, by rw [e, e2], h⟩) fun d ds e ⟨n, e2, h⟩ => ⟨n, by rw [e, e2], h⟩)
        fun ds ⟨n, e, h1, h2⟩ => ⟨n, e, ⟨by omega, by
          have h2 : (1000000 : Nat) < 2 ^ 100 := by decide
          omega⟩, fun d ⟨z, ez, z1, z2⟩ => ⟨z, ez, z1, by omega⟩⟩) (Nat.le_of_ble_eq_true rfl) (Nat.le_of_ble_eq_true rfl) (fun ds hc => ?_) (sw_true rfl rfl rfl (by decide +kernel))
    obtain ⟨a, b, e3, hds, ha1, ha2, hb1, hb2, he1, he2⟩ : ∃ a b e3 : Int, ds = [.int a, .int b, .int e3] ∧ 0 ≤ a ∧ a < 7 ∧ 0 ≤ b ∧ b < 7 ∧ 0 ≤ e3 ∧ e3 < 7 := by
      have hu : upTo 0 3 = [0, 1, 2] := by decide
      rw [hu] at hc
      simp only [CompK, if_true] at hc
      obtain ⟨d1, r1, q1, ⟨a, e1, a1, a2⟩, d2, r2, q2, ⟨b, e2, b1, b2⟩, d3, r3, q3, ⟨e, e3, c1, c2⟩, q4⟩ := hc
      exact ⟨a, b, e, by rw [q1, q2, q3, q4, e1, e2, e3], a1, a2, b1, b2, c1, c2⟩
    subst hds
    refine hs_app (K := fun d => d = priceD (a, b, e3)) 3 (pe_bm PySem.F.plainAttrs_list PySem.F.slot_list_append PySem.type_list_append (fun pins s σ H x xs v us Q I rx rs q => mt_append pins s σ H x xs v us Q I rx rs q) (ov 3) (pa_cons
      (ed_callTy (T := "tuple") call_tuple_of (c1_tuple (ds := [.int a, .int b, .int e3])) T.tuple boot_tuple (ea_cons (dv 5) ea_nil)) pa_nil)) rfl (by rw [List.length_map, hps.len, sizeLine_eq]; omega) fun d e => ?_
    subst e
    refine hs_nil fun σ H h => ⟨_, ⟨ps ++ [(a, b, e3)], _, _, ⟨by rw [List.length_append, hps.len]; rfl, fun p hp => ?_⟩, by rw [List.map_append]; rfl⟩, h⟩
    rcases List.mem_append.mp hp with q | q
    · exact hps.bd p q
    · rw [List.mem_singleton.mp q]
      exact ⟨⟨ha1, by show a ≤ 6; omega⟩, ⟨hb1, by show b ≤ 6; omega⟩, he1, by show e3 ≤ 6; omega⟩
  · rintro r' ⟨ps, x4, x5, hps, rfl⟩
    rw [List.length_map] at hps
    exact hs_frz 3 rfl (hs_ret (K := fun d => d = pricesD ps) (dv 3) fun d e => ⟨ps, e, hps⟩)
end
end BR

set_option Elab.async false
set_option linter.all false
set_option maxRecDepth 100000
set_option maxHeartbeats 1000000
/-! W20: _law_levels, with_pieces (where it raises nothing). -/
namespace BR
open PySem L2 PySem.Spec PyProof.Rows PD
abbrev sWP : Stmt := top 17
abbrev sLevels : Stmt := top 48
abbrev sMore : Stmt := top 49
section
variable {X : Cx} {body rest : List Stmt} {P M : L2.St → Hp → Prop} {E : Ends} {pos : Pos} {h₀ : ExceptHandler} {hds : List ExceptHandler}
/-- try, nothing is raised -/
theorem hs_try (hb : Hs X.nox body P { E with nx := M }) (k : Hs X rest M E) : Hs X (.Try body (h₀ :: hds) [] [] pos :: rest) P E :=
  hs_cons (M := M) (ps_try_thru0 (pss_hs (ι := Unit) fun _ => hb)) (fun σ H p => ⟨(), p, Le.refl _⟩) k
end
/-- an additional piece on all days -/
def plus1 (c : Cal) : Cal := c.map fun p => (p.1 + 1, p.2)
section
variable {P : Program} {w : World} {K : PySem.W.Frag} {mg : Str → Option Value} {base : Heap} {f C : Addr} {fd : FuncData}
theorem scLev : FnScope ["_law_days_in", "_law_prices_in", "_law_limit", "e"] ["_law_days_in", "_law_prices_in", "_law_limit"] (defScope sLevels) := ⟨rfl, rfl, rfl, by decide +kernel, rfl, by decide +kernel, by decide +kernel⟩
theorem ok_levels (c1 : PD.Cal P w K mg base 6 "levels_within" ["calendar", "prices", "budget"] (spLevW ⟨P, w⟩)) (F : Fun K "_law_levels" "_law_levels" sLevels f fd) : FnOk P w K mg base CX0 7 f fd ["_law_days_in", "_law_prices_in", "_law_limit"] (spLevW ⟨P, w⟩) := by
  refine fn_D F scLev (fun _ => rfl) (by decide) fun cdv A outer s H E W H0 i hr hp => ?_
  obtain ⟨c, ps, b⟩ := i
  refine hs_try (M := fun _ _ => False) ?_ (hs_never fun _ _ h => h)
  exact hs_retD (ed_call c1 (c, ps, b) hr (ea_cons (dv 0) (ea_cons (dv 1) (ea_cons (dv 2) ea_nil))) hp fun _ h => h) rfl
abbrev NWp : List Str := ["calendar", "first", "last", "pieces", "changed", "day", "owned", "back"]
theorem scWp : FnScope NWp ["calendar", "first", "last", "pieces"] (defScope sWP) := ⟨rfl, rfl, rfl, by decide +kernel, rfl, by decide +kernel, by decide +kernel⟩
abbrev spWp (M : MW) : Sp := spO M (fun c : Cal => [calD c, .int 1, .int (c.length : Nat), .int 1]) (fun c => CalIn c ∧ c ≠ [] ∧ ∀ p ∈ c, p.1 + 1 ≤ 12) (fun c d => d = calD (plus1 c))
theorem ok_wp (T : Txt mg) (c1 : PD.Cal P w K mg base 4 "require_calendar" ["calendar"] (spReqCal ⟨P, w⟩)) (c2 : PD.Cal P w K mg base 2 "is_between" ["value", "low", "high"] (spBetween ⟨P, w⟩)) (c3 : PD.Cal P w K mg base 1 "is_integer" ["value"] (spIsInt ⟨P, w⟩))
    (F : Fun K "with_pieces" "with_pieces" sWP f fd) : FnOk P w K mg base CX0 5 f fd ["calendar", "first", "last", "pieces"] (spWp ⟨P, w⟩) := by
  refine fn_D F scWp (fun _ => rfl) (by decide) fun cdv A outer s H E W H0 c hr hp => ?_
  obtain ⟨h1, h2, h3⟩ := hp
  obtain ⟨tm, hmo⟩ := T.maxOwned
  have hn : 1 ≤ c.length := List.length_pos_iff.mpr h2
  have hl := h1.len
  have eln : (c.map dayD).length = c.length := List.length_map _
  have d1 : decide ((1 : Int) ≤ (c.length : Nat)) = true := decide_eq_true (by omega)
  refine hs_drop (K := fun _ => True) (ed_call c1 c hr (ea_cons (dv 0) ea_nil) h1 fun _ _ => trivial) ?_
  refine hs_ifF (tt_is (td_not (td_val (ed_call c2 (1, 1, (c.length : Nat)) (hr.mono (by decide)) (ea_cons (dv 1) (ea_cons ed_int (ea_cons (ed_is (ed_lenL T.len (ea_cons (dv 0) ea_nil)) (by rw [eln])) ea_nil))) trivial fun _ h => h))) (by simp [d1])) ?_
  refine hs_ifF (tt_is (td_not (td_val (ed_call c2 ((c.length : Nat), 1, (c.length : Nat)) (hr.mono (by decide)) (ea_cons (dv 2) (ea_cons (dv 1) (ea_cons (ed_is (ed_lenL T.len (ea_cons (dv 0) ea_nil)) (by rw [eln])) ea_nil))) trivial fun _ h => h))) (by simp [d1])) ?_
  refine hs_ifF (tt_is (td_not (td_val (ed_call c3 1 (hr.mono (by decide)) (ea_cons (dv 3) ea_nil) trivial fun _ h => h))) rfl) ?_
  have hen : enumD 1 (c.map dayD) = (c.mapIdx fun i p => ((1 + (i : Int) : Int), p)).map fun q => D.tup [.int q.1, dayD q.2] := by
    unfold enumD
    apply List.ext_getElem?
    intro i
    simp only [List.getElem?_map, List.getElem?_mapIdx]
    cases c[i]? <;> rfl
  have hcl : ((c.mapIdx fun i p => ((1 + (i : Int) : Int), p)).filter fun _ => true).map (fun q => D.tup [.int (q.2.1 + 1), optD q.2.2]) = (plus1 c).map dayD := by
    rw [List.filter_eq_self.mpr fun _ _ => rfl]
    unfold plus1
    apply List.ext_getElem?
    intro i
    simp only [List.getElem?_map, List.getElem?_mapIdx]
    cases c[i]? <;> rfl
  refine hs_setL 4 (c.mapIdx fun i p => ((1 + (i : Int) : Int), p)) (fun q => D.tup [.int q.1, dayD q.2]) (fun q => [(5, .int q.1), (6, .int q.2.1), (7, optD q.2.2)]) (fun _ => true) (fun q => D.tup [.int (q.2.1 + 1), optD q.2.2]) rfl scWp.nd
    (by rw [← hen]; exact ei_en2 (b := false) (ds := c.map dayD) (k := 1) T.enumerate (ea_cons (dv 0) (ea_cons ed_int ea_nil)) rfl (by decide)) (blkOk_by (own := [("day", 5), ("owned", 6), ("back", 7)]) (by rfl))
    (fun s H C cl fp => pg_tup (n := 2) rfl (pgs_cons (pg_name (i := 5) scWp.nd rfl (.inl rfl)) (pgs_cons (pg_tup (n := 2) rfl (pgs_cons (pg_name (i := 6) scWp.nd rfl (.inl rfl)) (pgs_cons (pg_name (i := 7) scWp.nd rfl (.inl rfl)) pgs_nil))) pgs_nil))) (fun q _ => gd_tup (gd_cons gd_name (gd_cons (gd_tup (gd_cons gd_name (gd_cons gd_name gd_nil))) gd_nil)))
    (fun q _ z hz => by simp at hz; rcases hz with e | e | e <;> subst e <;> simp) (fun q _ s H C cl fp => td_tests)
    (fun q hq _ s H C cl fp => by
      have hq1 : 1 ≤ q.1 ∧ q.1 ≤ (c.length : Nat) := by
        obtain ⟨i, hi⟩ := List.getElem?_of_mem hq
        rw [List.getElem?_mapIdx] at hi
        cases hc : c[i]? with
        | none => rw [hc] at hi; cases hi
        | some p =>
          rw [hc] at hi
          have := (List.getElem?_eq_some_iff.mp hc).1
          have hi : ((1 + (i : Int) : Int), p) = q := by simpa using hi
          rw [← hi]
          show (1 : Int) ≤ 1 + (i : Int) ∧ (1 + (i : Int) : Int) ≤ (c.length : Nat)
          omega
      have e1 : decide ((1 : Int) ≤ q.1) = true := decide_eq_true hq1.1
      have e2 : decide (q.1 ≤ ((c.length : Nat) : Int)) = true := decide_eq_true hq1.2
      exact ed_tup (ea_cons (ed_is (ed_add (dv 6) (ed_mul (dv 3) (ed_callTy (T := "int") call_int1 (c1_intB (k := true)) T.int boot_int (ea_cons (ed_is (ed_leLe (dv 1) (dv 5) (dv 2)) (by rw [e1, e2]; rfl)) ea_nil)) (.inr (by decide)))) rfl) (ea_cons (dv 7) ea_nil)))
    (by rw [List.length_mapIdx, sizeLine_eq]; omega) (Nat.le_of_ble_eq_true rfl) ?_ (sw_true rfl rfl rfl (by decide +kernel))
  rw [hcl]
  have hall : (plus1 c).map (fun p => decide ((0 : Int) ≤ p.1) && decide (p.1 ≤ 12)) = List.replicate c.length true := by
    unfold plus1
    rw [List.map_map]
    refine List.eq_replicate_iff.mpr ⟨by simp, fun b hb => ?_⟩
    obtain ⟨p, hp, e⟩ := List.mem_map.mp hb
    obtain ⟨i, hi⟩ := List.getElem?_of_mem hp
    have hd := h1.day i p hi
    have h12 := h3 p hp
    have g1 : (0 : Int) ≤ p.1 + 1 := by have := hd.1; omega
    rw [← e]
    simp [g1, h12]
  refine hs_ifF (tt_is (td_not (td_val (ed_callBN (Ka := fun ds => ds = [.lst (((plus1 c).map fun p => decide ((0 : Int) ≤ p.1) && decide (p.1 ≤ 12)).map D.bl)]) (cr_all rfl) (fun ds e => by rw [e]; exact c1_all) T.all boot_all (ea_consN (K := fun d => d = .lst (((plus1 c).map fun p => decide ((0 : Int) ≤ p.1) && decide (p.1 ≤ 12)).map D.bl)) (Kr := fun ds => ds = [])
      (ed_new (ef_lc (plus1 c) dayD (fun p => [(6, .int p.1), (7, optD p.2)]) (fun _ => true) (fun p => .bl (decide ((0 : Int) ≤ p.1) && decide (p.1 ≤ 12))) rfl scWp.nd (ei_list (dv 4)) (blkOk_by (own := [("owned", 6), ("back", 7)]) (by rfl))
        (fun s H C cl fp => pg_tup (n := 2) rfl (pgs_cons (pg_name (i := 6) scWp.nd rfl (.inl rfl)) (pgs_cons (pg_name (i := 7) scWp.nd rfl (.inl rfl)) pgs_nil))) (fun p _ => gd_tup (gd_cons gd_name (gd_cons gd_name gd_nil))) (fun p _ z hz => by simp at hz; rcases hz with e | e <;> subst e <;> simp) (fun p _ s H C cl fp => td_tests)
        (fun p _ _ s H C cl fp => ed_leLe ed_int (dv 6) (ed_globI hmo)) (by unfold plus1; rw [List.length_map, sizeLine_eq]; omega)) fun ds e => by rw [e, List.filter_eq_self.mpr fun _ _ => rfl, List.map_map]; rfl) ea_nil fun d ds e1 e2 => by rw [e1, e2])))) (by rw [hall]; simp)) ?_
  exact hs_retD (dv 4) rfl
end
end BR

set_option Elab.async false
set_option linter.all false
set_option maxRecDepth 100000
set_option maxHeartbeats 1000000
/-! W21: what the law leans on, as plain facts; _law_breaks_right. -/
namespace BR
open PySem L2 PySem.Spec PyProof.Rows PD
def freeP (c : Cal) : List Price := List.replicate c.length (0, 0, 0)
def dearP (q : List Int) : List Price := q.map fun x => (0, 0, x)
def costRow (q row : List Int) : Int := ((row.zip q).map fun p => p.1 * p.2).sum
def sumsL (c : Cal) (q : List Int) : List Int := (rowsN c c.length).map (costRow q)
def scaleP (f : Int) (ps : List Price) : List Price := ps.map fun p => (f * p.1, f * p.2.1, f * p.2.2)
def LeP (p p' : Price) : Prop := p.1 ≤ p'.1 ∧ p.2.1 ≤ p'.2.1 ∧ p.2.2 ≤ p'.2.2
structure LessP (ps' ps : List Price) : Prop where
  len : ps'.length = ps.length
  le : ∀ (i : Nat) (p p' : Price), ps[i]? = some p → ps'[i]? = some p' → LeP p' p
def lastO (c : Cal) : Int := match c.getLast? with
  | some p => p.1
  | none => 1
def idleC (c : Cal) : Cal := c ++ [(lastO c, none)]
def longC : Cal := List.replicate 100 (1, none)
def costs12 (d e b : Int) : List Int := 0 :: (upTo 1 12).map fun j => d + (e + b) * j
/-- what is to be shown without the program -/
structure LawFacts : Prop where
  cnt : ∀ c, Drawn 4 3 c → CalIn c ∧ TabOk c ∧ cnt c c.length [] = (rowsN c c.length).length
  rows : ∀ c, Drawn 4 3 c → rowsN c c.length ≠ [] ∧ ∀ row ∈ rowsN c c.length, ∀ x ∈ row, 0 ≤ x ∧ x ≤ 12
  free : ∀ c b, Drawn 4 3 c → 0 ≤ b → LevIn c (freeP c) b ∧ levW c (freeP c) b = (rowsN c c.length).length
  dear : ∀ c q b, Drawn 4 3 c → q.length = c.length → (∀ x ∈ q, 0 ≤ x) → 0 ≤ b → LevIn c (dearP q) b ∧ levW c (dearP q) b = ((sumsL c q).filter fun s => decide (s ≤ b)).length
  base : ∀ c ps b, Drawn 4 3 c → PricesB c.length 6 ps → 0 ≤ b → b ≤ 168 → LevIn c ps b ∧ 0 ≤ levW c ps b
  mono : ∀ c ps b, Drawn 4 3 c → PricesB c.length 6 ps → 0 ≤ b → levW c ps b ≤ levW c ps (b + 1)
  scale : ∀ c ps b f r, Drawn 4 3 c → PricesB c.length 6 ps → 0 ≤ b → b ≤ 12 → 2 ≤ f → 0 ≤ r → r < f → LevIn c (scaleP f ps) (f * b + r) ∧ levW c (scaleP f ps) (f * b + r) = levW c ps b
  less : ∀ c ps ps' b, Drawn 4 3 c → PricesB c.length 6 ps → PricesB c.length 6 ps' → LessP ps' ps → 0 ≤ b → levW c ps b ≤ levW c ps' b
  more : ∀ c ps b, Drawn 4 3 c → c ≠ [] → PricesB c.length 6 ps → 0 ≤ b → b ≤ 12 → LevIn (plus1 c) ps b ∧ levW c ps b ≤ levW (plus1 c) ps b
  idle : ∀ c ps b, Drawn 4 3 c → PricesB c.length 6 ps → 0 ≤ b → b ≤ 12 → LevIn (idleC c) (ps ++ [(b + 1, 0, 0)]) b ∧ levW (idleC c) (ps ++ [(b + 1, 0, 0)]) b = levW c ps b
  steps : ∀ c ps (m : Nat), Drawn 4 3 c → PricesB c.length 6 ps → 1 ≤ m → m ≤ 200 → m ≤ (rowsN c c.length).length → CwIn c ps m ∧ 0 ≤ cwCost c ps m ∧ cwCost c ps m ≤ 168 ∧ (m : Int) ≤ levW c ps (cwCost c ps m) ∧ (0 < cwCost c ps m → levW c ps (cwCost c ps m - 1) < (m : Int))
  long : ∀ u p, 1 ≤ u → p = (u, 0, 0) ∨ p = (0, u, 0) → (∀ m : Nat, 1 ≤ m → m ≤ 101 → CwIn longC (List.replicate 100 p) m ∧ cwCost longC (List.replicate 100 p) m = u * ((m : Int) - 1)) ∧
    ∀ few r, 0 ≤ few → few ≤ 6 → 0 ≤ r → r < u → LevIn longC (List.replicate 100 p) (u * few + r) ∧ levW longC (List.replicate 100 p) (u * few + r) = few + 1
  twelve : ∀ d e b o, 0 ≤ d → 0 ≤ e → 0 ≤ b → o = none ∨ o = some 2 → (∀ m : Nat, 1 ≤ m → m ≤ 13 → CwIn [(12, o)] [(d, e, b)] m ∧ cwCost [(12, o)] [(d, e, b)] m = (costs12 d e b).getD (m - 1) 0) ∧
    ∀ lim, 0 ≤ lim → LevIn [(12, o)] [(d, e, b)] lim ∧ levW [(12, o)] [(d, e, b)] lim = ((costs12 d e b).filter fun s => decide (s ≤ lim)).length
abbrev sBreaks : Stmt := top 47
theorem compK_dear : ∀ {c : Cal} {ds : List D}, CompK (fun _ => true) (fun (_ : Day) d => ∃ z, d = priceD (0, 0, z) ∧ 0 ≤ z) c ds → ∃ q : List Int, ds = (dearP q).map priceD ∧ q.length = c.length ∧ ∀ x ∈ q, 0 ≤ x
  | [], ds, h => ⟨[], h, rfl, fun _ h => nomatch h⟩
  | p :: c, ds, h => by
    simp only [CompK, if_true] at h
    obtain ⟨d, r, e, ⟨z, e2, hz⟩, h⟩ := h
    obtain ⟨q, e3, hq, h0⟩ := compK_dear h
    refine ⟨z :: q, by rw [e, e2, e3]; rfl, by rw [List.length_cons, List.length_cons, hq], fun x hx => ?_⟩
    rcases List.mem_cons.mp hx with k | k
    · rw [k]; exact hz
    · exact h0 x k
theorem costRow_nonneg {q : List Int} (hq : ∀ x ∈ q, 0 ≤ x) {row : List Int} (hr : ∀ x ∈ row, 0 ≤ x) : 0 ≤ costRow q row := by
  refine sum_nonneg fun p hp => ?_
  have := List.of_mem_zip hp
  exact Int.mul_nonneg (hr _ this.1) (hq _ this.2)
theorem zip_dear (row q : List Int) : zipD (row.map D.int) ((dearP q).map priceD) = (row.zip q).map fun p => D.tup [.int p.1, priceD (0, 0, p.2)] := by
  unfold zipD dearP
  rw [List.map_map, List.zip_map, List.map_map]
  rfl
section
variable {P : Program} {w : World} {K : PySem.W.Frag} {mg : Str → Option Value} {base : Heap} {f C : Addr} {fd : FuncData}
abbrev NBk : List Str := ["_law_source_here", "_law_days_in", "_law_rows_so", "_law_wide", "_law_dear", "_law_sums", "_law_some", "_law_limit", "_law_day", "_law_number", "_law_price", "_law_row", "_law_one"]
theorem scBk : FnScope NBk ["_law_source_here", "_law_days_in", "_law_rows_so"] (defScope sBreaks) := ⟨rfl, rfl, rfl, by decide +kernel, rfl, by decide +kernel, by decide +kernel⟩
abbrev spBk (M : MW) : Sp := spO M (fun c : Cal => [D.src, calD c, .lst ((rowsN c c.length).map rowD)]) (fun c => Drawn 4 3 c) (fun c d => d = .bl true)
theorem ok_breaks (LF : LawFacts) (T : Txt mg) (c1 : PD.Cal P w K mg base 2 "_law_draw" ["_law_source_here", "_law_bound"] (spDraw ⟨P, w⟩)) (c2 : PD.Cal P w K mg base 3 "_law_choice" ["_law_source_here", "_law_options"] (spChoice ⟨P, w⟩)) (c3 : PD.Cal P w K mg base 6 "levels_within" ["calendar", "prices", "budget"] (spLevW ⟨P, w⟩))
    (F : Fun K "_law_breaks_right" "_law_breaks_right" sBreaks f fd) : FnOk P w K mg base CX0 7 f fd ["_law_source_here", "_law_days_in", "_law_rows_so"] (spBk ⟨P, w⟩) := by
  refine fn_D F scBk (fun _ => rfl) (by decide) fun cdv A outer s H E W H0 c hr hp => ?_
  have hcl := hp.len
  obtain ⟨hne, hrows⟩ := LF.rows c hp
  have hrl : ∀ row ∈ rowsN c c.length, row.length = c.length := fun row h => rowsN_len h
  have hdear := fun q b => LF.dear c q b hp
  have hsum : ∀ q, sumsL c q = (rowsN c c.length).map (costRow q) := fun q => rfl
  have hrsz : (rowsN c c.length).length ≤ 28561 := by
    refine rowsN_small (fun d => ?_) (by omega)
    unfold at1 owned
    rw [List.getD_eq_getElem?_getD, List.getElem?_map]
    cases q : c[(d - 1).toNat]? with
    | none => simp
    | some p => have := hp.day _ p q; show p.1 ≤ 12; have := this.2.1; omega
  generalize rowsN c c.length = rows at hne hrows hrl hsum hrsz
  generalize hSS : sumsL c = SS at hdear hsum
  have big : (10 : Int) ^ (20 : Int).toNat = 100000000000000000000 := by decide
  refine hs_set (K := fun d => ∃ n : Int, d = .int n ∧ 0 < n ∧ n.natAbs < 2 ^ 100) 3 (ed_call c2 [.int 2, .int 5, .int 100000000000000000000] (hr.mono (by decide)) (ea_cons (dv 0) (ea_cons (ed_lst (ea_cons ed_int (ea_cons ed_int (ea_cons (ed_is (ed_pow ed_int ed_int ⟨by decide, by decide, by decide⟩) (by rw [big])) ea_nil)))) ea_nil)) ⟨by decide, by decide⟩ fun d hd => by
    simp only [List.mem_cons, List.mem_singleton, List.not_mem_nil, or_false] at hd
    rcases hd with e | e | e
    · exact ⟨2, e, by decide, by decide⟩
    · exact ⟨5, e, by decide, by decide⟩
    · exact ⟨100000000000000000000, e, by decide, by decide⟩) (fun d ⟨wide, e, w1, w2⟩ => ?_) scBk.nd
  subst e
  refine hs_set (K := fun d => ∃ q : List Int, d = pricesD (dearP q) ∧ q.length = c.length ∧ ∀ x ∈ q, 0 ≤ x) 4 (ed_new (ef_lcN c dayD (fun p => [(8, dayD p)]) (fun _ => true) (fun _ d => ∃ z, d = priceD (0, 0, z) ∧ 0 ≤ z) rfl scBk.nd (ei_list (dv 1)) (blkOk_by (own := [("_law_day", 8)]) (by rfl))
      (fun s H C cl fp => pg_name (i := 8) scBk.nd rfl (.inl rfl)) (fun p _ => gd_name) (fun p _ q hq => by simp at hq; subst hq; simp) (fun p _ s H C cl fp => td_tests)
      (fun p _ _ s H C cl fp => ed_tupN (Ks := fun ds => ∃ z : Int, ds = [.int 0, .int 0, .int z] ∧ 0 ≤ z) (ea_consN (K := fun d => d = .int 0) (Kr := fun ds => ∃ z : Int, ds = [.int 0, .int z] ∧ 0 ≤ z) ed_int (ea_consN (K := fun d => d = .int 0) (Kr := fun ds => ∃ z : Int, ds = [.int z] ∧ 0 ≤ z) ed_int
        (ea_consN (K := Below wide) (Kr := fun ds => ds = []) (ed_call c1 wide (hr.mono (by decide)) (ea_cons (dv 0) (ea_cons (dv 3) ea_nil)) ⟨w1, w2⟩ fun _ h => h) ea_nil fun d ds ⟨z, e, z1, z2⟩ e2 => ⟨z, by rw [e, e2], z1⟩) fun d ds e ⟨z, e2, h⟩ => ⟨z, by rw [e, e2], h⟩) fun d ds e ⟨z, e2, h⟩ => ⟨z, by rw [e, e2], h⟩)
        fun ds ⟨z, e, h⟩ => ⟨by rw [e]; exact Nat.le_of_ble_eq_true rfl, z, by rw [e], h⟩) (by rw [sizeLine_eq]; omega)) fun ds h => by
        obtain ⟨q, e, h1, h2⟩ := compK_dear h
        exact ⟨q, by rw [e], h1, h2⟩) (fun d ⟨q, e, hq1, hq2⟩ => ?_) scBk.nd
  subst e
  refine hs_setL 5 rows rowD (fun row => [(11, rowD row)]) (fun _ => true) (fun row => .int (costRow q row)) rfl scBk.nd (ei_list (dv 2)) (blkOk_by (own := [("_law_row", 11)]) (by rfl))
    (fun s H C cl fp => pg_name (i := 11) scBk.nd rfl (.inl rfl)) (fun p _ => gd_name) (fun p _ q hq => by simp at hq; subst hq; simp) (fun p _ s H C cl fp => td_tests)
    (fun row hrow _ s H C cl fp => ed_callBN (Ka := fun ds => ds = [.lst (((row.zip q).map fun p => p.1 * p.2).map D.int)]) (cr_sum rfl) (fun ds e => by rw [e]; exact c1_sum) T.sum boot_sum (ea_consN (K := fun d => d = .lst (((row.zip q).map fun p => p.1 * p.2).map D.int)) (Kr := fun ds => ds = [])
      (ed_new (ef_lc (row.zip q) (fun p => D.tup [.int p.1, priceD (0, 0, p.2)]) (fun p => [(9, .int p.1), (10, priceD (0, 0, p.2))]) (fun _ => true) (fun p => .int (p.1 * p.2)) rfl scBk.nd (by rw [← zip_dear]; exact ei_zip (c := true) (d := false) T.zip (ea_cons (dv 11) (ea_cons (dv 4) ea_nil)) rfl rfl) (blkOk_by (own := [("_law_number", 9), ("_law_price", 10)]) (by rfl))
        (fun s H C cl fp => pg_tup (n := 2) rfl (pgs_cons (pg_name (i := 9) scBk.nd rfl (.inl rfl)) (pgs_cons (pg_name (i := 10) scBk.nd rfl (.inl rfl)) pgs_nil))) (fun p _ => gd_tup (gd_cons gd_name (gd_cons gd_name gd_nil))) (fun p _ z hz => by simp at hz; rcases hz with e | e <;> subst e <;> simp) (fun p _ s H C cl fp => td_tests)
        (fun p hpp _ s H C cl fp => ed_mul (dv 9) (ed_ixT (dv 10) ed_int) (.inl (by have := hrows row hrow p.1 (List.of_mem_zip hpp).1; omega))) (by rw [List.length_zip, hrl row hrow, sizeLine_eq]; omega)) fun ds e => by rw [e, List.filter_eq_self.mpr fun _ _ => rfl, List.map_map]; rfl) ea_nil fun d ds e1 e2 => by rw [e1, e2]))
    (by rw [sizeLine_eq]; omega) (Nat.le_of_ble_eq_true rfl) ?_ (sw_true rfl rfl rfl (by decide +kernel))
  rw [show ((rows.filter fun _ => true).map fun row => D.int (costRow q row)) = (SS q).map D.int by rw [List.filter_eq_self.mpr fun _ _ => rfl, hsum, List.map_map]; rfl]
  have hS0 : ∀ x ∈ SS q, 0 ≤ x := fun x hx => by
    rw [hsum] at hx
    obtain ⟨row, h1, e⟩ := List.mem_map.mp hx
    rw [← e]
    exact costRow_nonneg hq2 fun y hy => (hrows row h1 y hy).1
  have hSn : SS q ≠ [] := fun z => by
    rw [hsum] at z
    exact hne (List.map_eq_nil_iff.mp z)
  have hSl : (SS q).length ≤ 28561 := by rw [hsum, List.length_map]; exact hrsz
  have hSp : 0 < (SS q).length := List.length_pos_iff.mpr hSn
  have hdq := fun b => hdear q b hq1 hq2
  generalize SS q = S at hS0 hSn hSl hSp hdq
  have hch : ∀ {r : List (Option D)}, True := fun {_} => trivial
  let NN : D → Prop := fun d => ∃ z : Int, d = .int z ∧ 0 ≤ z
  have hmem : ∀ d ∈ S.map D.int, NN d := fun d hd => by
    obtain ⟨x, hx, e⟩ := List.mem_map.mp hd
    exact ⟨x, e.symm, hS0 x hx⟩
  refine hs_set (K := fun d => ∃ ds : List D, d = .lst ds ∧ ds.length = 5 ∧ ∀ x ∈ ds, NN x) 6 (ed_new (ef_lstN (Ks := fun ds => ds.length = 5 ∧ ∀ x ∈ ds, NN x)
      (ea_consN (K := NN) (Kr := fun ds => ds.length = 4 ∧ ∀ x ∈ ds, NN x) (ed_mono ed_int fun d e => ⟨0, e, by decide⟩)
      (ea_consN (K := NN) (Kr := fun ds => ds.length = 3 ∧ ∀ x ∈ ds, NN x) (ed_mono (ed_callB (cr_max rfl) (c1_maxL (maxL_mem hSn) fun y hy => le_maxL hy) T.max boot_max (ea_cons (dv 5) ea_nil)) fun d e => ⟨_, e, hS0 _ (maxL_mem hSn)⟩)
      (ea_consN (K := NN) (Kr := fun ds => ds.length = 2 ∧ ∀ x ∈ ds, NN x) (ed_mono (ed_fdivW (ed_ixL (dv 5) ed_int (at_map (i := 0) (z := 0) (by omega) (by omega))) ed_int (wide_div (by decide) (b := 10) (by decide) (by decide) (by decide))) fun d e => ⟨_, e, by
          have h := hS0 _ (List.getElem_mem hSp)
          rw [List.getD_eq_getElem?_getD, show (0 : Int).toNat = 0 from rfl, List.getElem?_eq_getElem hSp]
          show 0 ≤ S[0] / 2
          omega⟩)
      (ea_consN (K := NN) (Kr := fun ds => ds.length = 1 ∧ ∀ x ∈ ds, NN x) (ed_call c2 (S.map D.int) (hr.mono (by decide)) (ea_cons (dv 0) (ea_cons (dv 5) ea_nil)) ⟨by rw [List.length_map]; exact hSp, by rw [List.length_map]; omega⟩ hmem)
      (ea_consN (K := NN) (Kr := fun ds => ds = []) (ed_opN (Ka := NN) (Kb := fun d => d = .int 1) op_add (ed_call c2 (S.map D.int) (hr.mono (by decide)) (ea_cons (dv 0) (ea_cons (dv 5) ea_nil)) ⟨by rw [List.length_map]; exact hSp, by rw [List.length_map]; omega⟩ hmem) ed_int fun dx dy ⟨z, e1, h⟩ e2 => by
          subst e1; subst e2
          exact Op2.imp (op2_I0 (dd := .int (z + 1)) fun _ _ => rfl) fun d e => ⟨_, e, by omega⟩) ea_nil fun d ds h e => ⟨by rw [e]; rfl, fun x hx => by rw [e] at hx; rw [List.mem_singleton.mp hx]; exact h⟩)
      fun d ds h e => ⟨by rw [List.length_cons, e.1], fun x hx => by rcases List.mem_cons.mp hx with k | k; (rw [k]; exact h); exact e.2 x k⟩)
      fun d ds h e => ⟨by rw [List.length_cons, e.1], fun x hx => by rcases List.mem_cons.mp hx with k | k; (rw [k]; exact h); exact e.2 x k⟩)
      fun d ds h e => ⟨by rw [List.length_cons, e.1], fun x hx => by rcases List.mem_cons.mp hx with k | k; (rw [k]; exact h); exact e.2 x k⟩)
      fun d ds h e => ⟨by rw [List.length_cons, e.1], fun x hx => by rcases List.mem_cons.mp hx with k | k; (rw [k]; exact h); exact e.2 x k⟩)
      fun ds h => by rw [h.1]; exact Nat.le_of_ble_eq_true rfl) fun ds h => ⟨ds, rfl, h⟩) (fun d ⟨ds, e, hd5, hdN⟩ => ?_) scBk.nd
  subst e
  obtain ⟨x4, hx4, h4⟩ : ∃ x4 : Int, atI ds 4 = some (.int x4) ∧ 0 ≤ x4 := by
    have hl : 4 < ds.length := by omega
    obtain ⟨z, e, h⟩ := hdN _ (List.getElem_mem hl)
    refine ⟨z, ?_, h⟩
    unfold atI ixN
    rw [if_pos (by decide), if_pos (by omega)]
    show ds[4]? = _
    rw [List.getElem?_eq_getElem hl, e]
  refine hs_forN (K' := fun d => d = .bl true) (Ki := fun es => ∀ x ∈ es, NN x) (fun es j r => ∃ x7, r = [.val .src, .val (calD c), .val (.lst (rows.map rowD)), .val (.int wide), .val (pricesD (dearP q)), .val (intsD S), .val (.lst ds), x7, .none, .none, .none, .none, .none])
    (fun _ _ _ => False) rfl PassesOwn.never (ei_listN (K := fun d => ∃ es, d = .lst es ∧ ∀ x ∈ es, NN x) (ed_new (ef_lstN (Ks := fun es => es.length = 2 ∧ ∀ x ∈ es, NN x)
        (ea_consN (K := NN) (Kr := fun es => es.length = 1 ∧ ∀ x ∈ es, NN x) (ed_call c2 ds (hr.mono (by decide)) (ea_cons (dv 0) (ea_cons (dv 6) ea_nil)) ⟨by omega, by omega⟩ hdN)
        (ea_consN (K := NN) (Kr := fun es => es = []) (ed_mono (ed_ixL (dv 6) ed_int hx4) fun d e => ⟨x4, e, h4⟩) ea_nil fun d ds h e => ⟨by rw [e]; rfl, fun x hx => by rw [e] at hx; rw [List.mem_singleton.mp hx]; exact h⟩)
        fun d ds h e => ⟨by rw [List.length_cons, e.1], fun x hx => by rcases List.mem_cons.mp hx with k | k; (rw [k]; exact h); exact e.2 x k⟩) fun ds h => by rw [h.1]; exact Nat.le_of_ble_eq_true rfl) fun es h => ⟨es, rfl, h.2⟩) fun d ⟨es, e, h⟩ => ⟨es, e, h⟩) (pg_name (i := 7) scBk.nd rfl (.inr rfl))
    (fun es _ => ⟨_, rfl⟩) (fun d => [(7, d)]) (fun ds d _ _ => gd_name) ?_ (fun _ _ h => h) (fun _ _ _ _ _ h => h) ?_ (hs_never fun _ _ h => h)
  · rintro H1 es j d r' hes hd ⟨x7, rfl⟩
    obtain ⟨lim, rfl, hlim⟩ := hes d (List.mem_of_getElem? hd)
    obtain ⟨k1, k2⟩ := hdq lim hlim
    refine hs_ifF (tt_is (td_neI (ed_call c3 (c, dearP q, lim) hr (ea_cons (dv 1) (ea_cons (dv 4) (ea_cons (dv 7) ea_nil))) k1 fun _ h => h) (ed_lenL T.len (ea_cons (ed_new (ef_lc S D.int (fun x => [(12, .int x)]) (fun x => decide (x ≤ lim)) D.int rfl scBk.nd (ei_list (dv 5)) (blkOk_by (own := [("_law_one", 12)]) (by rfl))
        (fun s H C cl fp => pg_name (i := 12) scBk.nd rfl (.inl rfl)) (fun p _ => gd_name) (fun p _ q hq => by simp at hq; subst hq; simp) (fun x _ s H C cl fp => td_test1 (td_le (dv 12) (dv 7))) (fun x _ _ s H C cl fp => dv 12) (by rw [sizeLine_eq]; omega)) fun ds e => by rw [e]) ea_nil))) (by
          show (!decide (levW c (dearP q) lim = _)) = false
          rw [k2, List.length_map]
          simp)) ?_
    exact hs_nil fun σ H h => ⟨_, ⟨_, rfl⟩, h⟩
  · rintro es r' _ ⟨x7, rfl⟩
    exact hs_retD ed_bl rfl
end
end BR

set_option Elab.async false
set_option linter.all false
set_option maxRecDepth 100000
set_option maxHeartbeats 1000000
/-! W22: _law_steps_right. -/
namespace BR
open PySem L2 PySem.Spec PyProof.Rows PD
abbrev sSteps : Stmt := top 50
section
variable {X : Cx} {M : MW} {r : List (Option D)} {a b c : Expr} {pos : Pos} {Ka : D → Prop} {d : D}
/-- an item of a tuple of which little is known -/
theorem ed_ixTK {i : Int} (ha : PE X a (tN M r Ka)) (hb : PE X b (tD M r (.int i))) (h : ∀ x, Ka x → ∃ ds, x = .tup ds ∧ atI ds i = some d) (hs : PlainIx b := by exact fun _ _ => rfl) : PE X (.Subscript a b pos) (tD M r d) :=
  (pe_ix ix_tup ha hb hs).wk (tOp_N fun dx dy kx ky => by
    obtain ⟨ds, e, hd⟩ := h dx kx
    subst e; subst ky
    exact op2_ixT hd)
theorem td_leLt {i j l : Int} (ha : PE X a (tD M r (.int i))) (hb : PE X b (tD M r (.int j))) (hc : PE X c (tD M r (.int l))) (hm : lastMarks [.LtE, .Lt] [b, c] = false := by with_unfolding_all rfl) :
    PT X (.Compare a [.LtE, .Lt] [b, c] pos) (tT M r (decide (i ≤ j) && decide (j < l))) := td_chain op_le op_lt ha hb hc (op2_I0 fun _ _ => rfl) (op2_I0 fun _ _ => rfl) hm
end
def smallP (ps : List Price) : List Price := ps.map fun p => (p.1.fmod 3, p.2.1.fmod 3, p.2.2.fmod 3)
theorem smallP_bd {n : Nat} {ps : List Price} (h : PricesB n 6 ps) : PricesB n 6 (smallP ps) := ⟨by unfold smallP; rw [List.length_map]; exact h.len, fun p hp => by
  unfold smallP at hp
  obtain ⟨q, _, e⟩ := List.mem_map.mp hp
  have h1 := fmod_bd q.1 (m := 3) (by decide)
  have h2 := fmod_bd q.2.1 (m := 3) (by decide)
  have h3 := fmod_bd q.2.2 (m := 3) (by decide)
  rw [← e]
  refine ⟨⟨h1.1, ?_⟩, ⟨h2.1, ?_⟩, h3.1, ?_⟩
  · show q.1.fmod 3 ≤ 6; omega
  · show q.2.1.fmod 3 ≤ 6; omega
  · show q.2.2.fmod 3 ≤ 6; omega⟩
section
variable {P : Program} {w : World} {K : PySem.W.Frag} {mg : Str → Option Value} {base : Heap} {f C : Addr} {fd : FuncData}
abbrev NSt : List Str := ["_law_source_here", "_law_days_in", "_law_prices_in", "_law_whole", "_law_small", "_law_many", "_law_price_in", "_law_cost", "_law_told", "_law_price", "_law_part"]
abbrev pSt : List Str := ["_law_source_here", "_law_days_in", "_law_prices_in", "_law_whole"]
theorem scSt : FnScope NSt pSt (defScope sSteps) := ⟨rfl, rfl, rfl, by decide +kernel, rfl, by decide +kernel, by decide +kernel⟩
abbrev spSt (M : MW) : Sp := spO M (fun i : Cal × List Price => [D.src, calD i.1, pricesD i.2, .int (rowsN i.1 i.1.length).length]) (fun i => Drawn 4 3 i.1 ∧ PricesB i.1.length 6 i.2) (fun _ d => d = .bl true)
def uSt : D → List (Nat × D)
  | .tup [a, b] => [(5, a), (6, b)]
  | _ => []
theorem ok_steps (LF : LawFacts) (T : Txt mg) (c1 : PD.Cal P w K mg base 2 "_law_draw" ["_law_source_here", "_law_bound"] (spDraw ⟨P, w⟩)) (c2 : PD.Cal P w K mg base 104 "cheapest_worst" ["calendar", "prices", "levels"] (spCW ⟨P, w⟩)) (c3 : PD.Cal P w K mg base 7 "_law_levels" ["_law_days_in", "_law_prices_in", "_law_limit"] (spLevW ⟨P, w⟩))
    (F : Fun K "_law_steps_right" "_law_steps_right" sSteps f fd) : FnOk P w K mg base CX0 105 f fd pSt (spSt ⟨P, w⟩) := by
  refine fn_D F scSt (fun _ => rfl) (by decide) fun cdv A outer s H E W H0 i hr hp => ?_
  obtain ⟨c, ps⟩ := i
  obtain ⟨hd, hps⟩ := hp
  simp only at hd hps
  have hcl := hd.len
  have hne := (LF.rows c hd).1
  have hst := fun ps' m => LF.steps c ps' m hd
  have hba := fun ps' b => LF.base c ps' b hd
  have hR : 0 < (rowsN c c.length).length := List.length_pos_iff.mpr hne
  have small : ∀ n : Int, 0 < n → n ≤ 1000 → 0 < n ∧ n.natAbs < 2 ^ 100 := fun n a b => ⟨a, by
    have h2 : (1000000 : Nat) < 2 ^ 100 := by decide
    omega⟩
  show Hs _ _ (At _ _ _ [.val .src, .val (calD c), .val (pricesD ps), .val (.int (rowsN c c.length).length), .none, .none, .none, .none, .none, .none, .none]) _
  generalize (rowsN c c.length).length = R at hR hst
  have hsm := smallP_bd hps
  refine hs_setL 4 ps priceD (fun p => [(9, priceD p)]) (fun _ => true) (fun p => priceD (p.1.fmod 3, p.2.1.fmod 3, p.2.2.fmod 3)) rfl scSt.nd (ei_list (dv 2)) (blkOk_by (own := [("_law_price", 9)]) (by rfl))
    (fun s H C cl fp => pg_name (i := 9) scSt.nd rfl (.inl rfl)) (fun p _ => gd_name) (fun p _ q hq => by simp at hq; subst hq; simp) (fun p _ s H C cl fp => td_tests)
    (fun p _ _ s H C cl fp => ed_callTyN (T := "tuple") (Ka := fun ds => ds = [.lst [.int (p.1.fmod 3), .int (p.2.1.fmod 3), .int (p.2.2.fmod 3)]]) call_tuple_of (fun ds e => by rw [e]; exact c1_tuple) T.tuple boot_tuple (ea_consN (K := fun d => d = .lst [.int (p.1.fmod 3), .int (p.2.1.fmod 3), .int (p.2.2.fmod 3)]) (Kr := fun ds => ds = [])
      (ed_new (ef_lc [p.1, p.2.1, p.2.2] D.int (fun x => [(10, .int x)]) (fun _ => true) (fun x => .int (x.fmod 3)) rfl scSt.nd (ei_tup (dv 9)) (blkOk_by (own := [("_law_part", 10)]) (by rfl))
        (fun s H C cl fp => pg_name (i := 10) scSt.nd rfl (.inl rfl)) (fun p _ => gd_name) (fun p _ q hq => by simp at hq; subst hq; simp) (fun p _ s H C cl fp => td_tests) (fun x _ _ s H C cl fp => ed_modN (dv 10) ed_int (by decide)) (Nat.le_of_ble_eq_true rfl)) fun ds e => by rw [e]; rfl) ea_nil fun d ds e1 e2 => by rw [e1, e2]))
    (by rw [hps.len, sizeLine_eq]; omega) (Nat.le_of_ble_eq_true rfl) ?_ (sw_true rfl rfl rfl (by decide +kernel))
  rw [show ((ps.filter fun _ => true).map fun p => priceD (p.1.fmod 3, p.2.1.fmod 3, p.2.2.fmod 3)) = (smallP ps).map priceD by rw [List.filter_eq_self.mpr fun _ _ => rfl]; unfold smallP; rw [List.map_map]; rfl]
  generalize smallP ps = sm at hsm
  let Good : D → Prop := fun d => ∃ (m : Nat) (ps' : List Price), d = .tup [.int (m : Nat), pricesD ps'] ∧ PricesB c.length 6 ps' ∧ 1 ≤ m ∧ m ≤ 200 ∧ m ≤ R
  have hmin : ∀ b : Int, (if b < ((R : Nat) : Int) then b else ((R : Nat) : Int)) = if b < ((R : Nat) : Int) then b else ((R : Nat) : Int) := fun b => rfl
  refine hs_forN (K' := fun d => d = .bl true) (Ki := fun es => ∀ x ∈ es, Good x) (fun es j r => ∃ x5 x6 x7 x8, r = [.val .src, .val (calD c), .val (pricesD ps), .val (.int (R : Nat)), .val (pricesD sm), x5, x6, x7, x8, .none, .none])
    (fun _ _ _ => False) rfl PassesOwn.never (ei_listN (K := fun d => ∃ es, d = .lst es ∧ ∀ x ∈ es, Good x) (ed_new (ef_lstN (Ks := fun es => es.length = 2 ∧ ∀ x ∈ es, Good x)
        (ea_consN (K := Good) (Kr := fun es => es.length = 1 ∧ ∀ x ∈ es, Good x) (ed_mono (ed_tup (ea_cons (ed_callB (call_min2 rfl) (c1_min2 (i := (R : Nat)) (j := 200)) T.min boot_min (ea_cons (dv 3) (ea_cons ed_int ea_nil))) (ea_cons (dv 4) ea_nil))) fun d e => ⟨(if (200 : Int) < (R : Nat) then (200 : Int) else (R : Nat)).toNat, sm, by
            rw [e, show (((if (200 : Int) < (R : Nat) then (200 : Int) else (R : Nat)).toNat : Nat) : Int) = (if (200 : Int) < (R : Nat) then (200 : Int) else (R : Nat)) by split <;> omega], hsm, by split <;> omega, by split <;> omega, by split <;> omega⟩)
        (ea_consN (K := Good) (Kr := fun es => es = []) (ed_tupN (Ks := fun ds => ∃ m : Nat, ds = [.int (m : Nat), pricesD ps] ∧ 1 ≤ m ∧ m ≤ 200 ∧ m ≤ R) (ea_consN (K := fun d => ∃ m : Nat, d = .int (m : Nat) ∧ 1 ≤ m ∧ m ≤ 200 ∧ m ≤ R) (Kr := fun ds => ds = [pricesD ps])
            (ed_opN (Ka := fun d => d = .int 1) (Kb := Below (if (40 : Int) < (R : Nat) then (40 : Int) else (R : Nat))) op_add ed_int (ed_call c1 (if (40 : Int) < (R : Nat) then (40 : Int) else (R : Nat)) (hr.mono (by decide)) (ea_cons (dv 0) (ea_cons (ed_callB (call_min2 rfl) (c1_min2 (i := (R : Nat)) (j := 40)) T.min boot_min (ea_cons (dv 3) (ea_cons ed_int ea_nil))) ea_nil)) (small _ (by split <;> omega) (by split <;> omega)) fun _ h => h) fun dx dy e1 ⟨z, e2, z1, z2⟩ => by
              subst e1; subst e2
              exact Op2.imp (op2_I0 (dd := .int (1 + z)) fun _ _ => rfl) fun d e => ⟨(1 + z).toNat, by rw [e]; congr 1; omega, by omega, by split at z2 <;> omega, by split at z2 <;> omega⟩)
            (ea_cons (dv 2) ea_nil) fun d ds ⟨m, e, h⟩ e2 => ⟨m, by rw [e, e2], h⟩) fun ds ⟨m, e, h⟩ => ⟨by rw [e]; exact Nat.le_of_ble_eq_true rfl, m, ps, by rw [e], hps, h⟩) ea_nil fun d ds h e => ⟨by rw [e]; rfl, fun x hx => by rw [e] at hx; rw [List.mem_singleton.mp hx]; exact h⟩)
        fun d ds h e => ⟨by rw [List.length_cons, e.1], fun x hx => by rcases List.mem_cons.mp hx with k | k; (rw [k]; exact h); exact e.2 x k⟩) fun ds h => by rw [h.1]; exact Nat.le_of_ble_eq_true rfl) fun es h => ⟨es, rfl, h.2⟩) fun d ⟨es, e, h⟩ => ⟨es, e, h⟩)
    (pg_tup (n := 2) rfl (pgs_cons (pg_name (i := 5) scSt.nd rfl (.inl rfl)) (pgs_cons (pg_name (i := 6) scSt.nd rfl (.inl rfl)) pgs_nil)))
    (fun es _ => ⟨_, _, _, _, rfl⟩) uSt (fun es d hes hd => ?_) ?_ (fun _ _ h => h) (fun _ _ _ _ _ h => h) ?_ (hs_never fun _ _ h => h)
  · obtain ⟨m, ps', e, _⟩ := hes d hd
    subst e
    exact gd_tup (gd_cons gd_name (gd_cons gd_name gd_nil))
  · rintro H1 es j d r' hes hd' ⟨x5, x6, x7, x8, rfl⟩
    obtain ⟨m, ps', rfl, hb, m1, m2, m3⟩ := hes d (List.mem_of_getElem? hd')
    obtain ⟨k1, k2, k3, k4, k5⟩ := hst ps' m hb m1 m2 m3
    generalize hC : cwCost c ps' m = cost at k2 k3 k4 k5
    have g1 := hba ps' cost hb k2 k3
    refine hs_setD 7 (d := .int cost) (ed_ixTK (Ka := fun d => ∃ x, d = .tup [.int cost, x]) (ed_call c2 (c, ps', m) hr (ea_cons (dv 1) (ea_cons (dv 6) (ea_cons (dv 5) ea_nil))) k1 fun d ⟨x, e⟩ => ⟨x, by rw [e, ← hC]⟩) ed_int fun x ⟨y, e⟩ => ⟨_, e, rfl⟩) ?_ scSt.nd
    refine hs_setD 8 (d := .int (levW c ps' cost)) (ed_call c3 (c, ps', cost) (hr.mono (by decide)) (ea_cons (dv 1) (ea_cons (dv 6) (ea_cons (dv 7) ea_nil))) g1.1 fun _ h => h) ?_ scSt.nd
    refine hs_ifF (tt_is (PW.pt (tw_and (td_notN (dv 8)) fun _ => tw_and1 (td_lt (dv 8) (dv 5)))) (by rw [decide_eq_false (by omega)]; simp)) ?_
    refine hs_set (K := fun d => d = .non ∨ ∃ z : Int, d = .int z ∧ 0 ≤ z ∧ z < (m : Nat)) 8 (ed_if (k := decide (0 < cost)) (td_gt (dv 7) ed_int) (fun h => ?_) (fun h => ed_mono ed_non fun d e => .inl e)) (fun d hdd => ?_) scSt.nd
    · have h : 0 < cost := by simpa using h
      have g2 := hba ps' (cost - 1) hb (by omega) (by omega)
      exact ed_mono (ed_call c3 (c, ps', cost - 1) (hr.mono (by decide)) (ea_cons (dv 1) (ea_cons (dv 6) (ea_cons (ed_sub (dv 7) ed_int) ea_nil))) g2.1 fun _ h => h) fun d e => .inr ⟨_, e, g2.2, k5 h⟩
    · rcases hdd with e | ⟨z, e, z1, z2⟩
      · subst e
        refine hs_ifF (tt_is (PW.pt (tw_and (l := false) (td_notN (dv 8)) fun h => by cases h)) rfl) ?_
        exact hs_nil fun σ H h => ⟨_, ⟨_, _, _, _, rfl⟩, h⟩
      · subst e
        refine hs_ifF (tt_is (PW.pt (tw_and (td_notN (dv 8)) fun _ => tw_and1 (td_not (td_leLt ed_int (dv 8) (dv 5))))) (by rw [decide_eq_true z1, decide_eq_true z2]; rfl)) ?_
        exact hs_nil fun σ H h => ⟨_, ⟨_, _, _, _, rfl⟩, h⟩
  · rintro es r' _ ⟨x5, x6, x7, x8, rfl⟩
    exact hs_retD ed_bl rfl
end
end BR

set_option Elab.async false
set_option linter.all false
set_option maxRecDepth 100000
set_option maxHeartbeats 1000000
/-! W23: _law_right. -/
namespace BR
open PySem L2 PySem.Spec PyProof.Rows PD
abbrev sRight : Stmt := top 51
structure MoreIn (c : Cal) (ps : List Price) (b : Int) : Prop where
  cal : CalIn c
  own : ∀ p ∈ c, p.1 + 1 ≤ 12
  lev : LevIn (plus1 c) ps b
abbrev spMore (M : MW) : Sp := spO M (fun i : Cal × List Price × Int => [calD i.1, pricesD i.2.1, .int i.2.2]) (fun i => MoreIn i.1 i.2.1 i.2.2) (fun i d => d = .int (levW (plus1 i.1) i.2.1 i.2.2))
theorem compK_less : ∀ {ps : List Price} {ds : List D}, CompK (fun _ => true) (fun (p : Price) d => ∃ p' : Price, d = priceD p' ∧ LeP p' p ∧ PriceB 6 p') ps ds → ∃ ps' : List Price, ds = ps'.map priceD ∧ PricesB ps.length 6 ps' ∧ LessP ps' ps
  | [], ds, h => ⟨[], h, ⟨rfl, fun _ h => nomatch h⟩, ⟨rfl, fun i p p' h => by simp at h⟩⟩
  | p :: ps, ds, h => by
    simp only [CompK, if_true] at h
    obtain ⟨d, r, e, ⟨p', e2, hl, hb⟩, h⟩ := h
    obtain ⟨ps', e3, hq, h0⟩ := compK_less h
    refine ⟨p' :: ps', by rw [e, e2, e3]; rfl, ⟨by rw [List.length_cons, List.length_cons, hq.len], fun x hx => ?_⟩, ⟨by rw [List.length_cons, List.length_cons, h0.len], fun i q q' h1 h2 => ?_⟩⟩
    · rcases List.mem_cons.mp hx with k | k
      · rw [k]; exact hb
      · exact hq.bd x k
    · cases i with
      | zero =>
        have h1 : p = q := by simpa using h1
        have h2 : p' = q' := by simpa using h2
        rw [← h1, ← h2]; exact hl
      | succ i => exact h0.le i q q' (by simpa using h1) (by simpa using h2)
section
variable {P : Program} {w : World} {K : PySem.W.Frag} {mg : Str → Option Value} {base : Heap} {f C : Addr} {fd : FuncData}
abbrev NRi : List Str := ["_law_source_here", "_law_days_in", "_law_prices_in", "_law_limit", "_law_found", "_law_factor", "_law_wide", "_law_more_here", "_law_told", "_law_less", "_law_idle", "_law_barred", "_law_price", "_law_part"]
abbrev pRi : List Str := ["_law_source_here", "_law_days_in", "_law_prices_in", "_law_limit"]
theorem scRi : FnScope NRi pRi (defScope sRight) := ⟨rfl, rfl, rfl, by decide +kernel, rfl, by decide +kernel, by decide +kernel⟩
structure RightIn (c : Cal) (ps : List Price) (lim : Int) : Prop where
  cal : Drawn 4 3 c
  pr : PricesB c.length 6 ps
  l0 : 0 ≤ lim
  l1 : lim ≤ 11
abbrev spRi (M : MW) : Sp := spO M (fun i : Cal × List Price × Int => [D.src, calD i.1, pricesD i.2.1, .int i.2.2]) (fun i => RightIn i.1 i.2.1 i.2.2) (fun _ d => d = .bl true)
theorem ok_right (LF : LawFacts) (T : Txt mg) (c1 : PD.Cal P w K mg base 2 "_law_draw" ["_law_source_here", "_law_bound"] (spDraw ⟨P, w⟩)) (c2 : PD.Cal P w K mg base 6 "levels_within" ["calendar", "prices", "budget"] (spLevW ⟨P, w⟩)) (c3 : PD.Cal P w K mg base 8 "_law_more" ["_law_days_in", "_law_prices_in", "_law_limit"] (spMore ⟨P, w⟩))
    (F : Fun K "_law_right" "_law_right" sRight f fd) : FnOk P w K mg base CX0 9 f fd pRi (spRi ⟨P, w⟩) := by
  refine fn_D F scRi (fun _ => rfl) (by decide) fun cdv A outer s H E W H0 i hr hp => ?_
  obtain ⟨c, ps, lim⟩ := i
  obtain ⟨hd, hps, hl0, hl1⟩ := hp
  simp only at hd hps hl0 hl1
  have hu : (cxOf CX0 P w K mg base NRi "_law_right" (defScope sRight) f cdv A outer s H E).nox.A.units + 64 < cLine := hr.units
  have hcl := hd.len
  have hpl := hps.len
  have b0 := LF.base c ps lim hd hps hl0 (by omega)
  have b1 := LF.base c ps (lim + 1) hd hps (by omega) (by omega)
  have m0 := LF.mono c ps lim hd hps hl0
  have hci := (LF.cnt c hd).1
  have own12 : ∀ p ∈ c, p.1 + 1 ≤ 12 := fun p hp => by
    obtain ⟨i, hi⟩ := List.getElem?_of_mem hp
    have := (hd.day i p hi).2.1
    omega
  have more : LevIn (plus1 c) ps lim ∧ levW c ps lim ≤ levW (plus1 c) ps lim := by
    by_cases z : c = []
    · rw [z] at b0 ⊢
      exact ⟨b0.1, Int.le_refl _⟩
    · exact LF.more c ps lim hd z hps hl0 (by omega)
  have idle := LF.idle c ps lim hd hps hl0 (by omega)
  have e9 : (10 : Int) ^ (9 : Int).toNat = 1000000000 := by decide
  refine hs_parTD (K1 := fun d => d = .int (levW c ps lim)) (K2 := fun d => ∃ z : Int, d = .int z ∧ 2 ≤ z) 4 5 (ed_call c2 (c, ps, lim) (hr.mono (by decide)) (ea_cons (dv 1) (ea_cons (dv 2) (ea_cons (dv 3) ea_nil))) b0.1 fun _ h => h)
    (ed_opN (Ka := fun d => d = .int 2) (Kb := Below 1000000000) op_add ed_int (ed_call c1 1000000000 (hr.mono (by decide)) (ea_cons (dv 0) (ea_cons (ed_is (ed_pow ed_int ed_int ⟨by decide, by decide, by decide⟩) (by rw [e9])) ea_nil)) ⟨by decide, by decide⟩ fun _ h => h) fun dx dy e1 ⟨z, e2, z1, z2⟩ => by
      subst e1; subst e2
      exact Op2.imp (op2_I0 (dd := .int (2 + z)) fun _ _ => rfl) fun d e => ⟨_, e, by omega⟩)
    (pg_tup (n := 2) rfl (pgs_cons (pg_name (i := 4) scRi.nd rfl (.inl rfl)) (pgs_cons (pg_name (i := 5) scRi.nd rfl (.inr rfl)) pgs_nil))) (fun d d2 e1 ⟨fa, e2, hf⟩ => ?_)
  subst e1; subst e2
  have sc := fun r => LF.scale c ps lim fa r hd hps hl0 (by omega) hf
  refine hs_setL 6 ps priceD (fun p => [(12, priceD p)]) (fun _ => true) (fun p => priceD (fa * p.1, fa * p.2.1, fa * p.2.2)) rfl scRi.nd (ei_list (dv 2)) (blkOk_by (own := [("_law_price", 12)]) (by rfl))
    (fun s H C cl fp => pg_name (i := 12) scRi.nd rfl (.inl rfl)) (fun p _ => gd_name) (fun p _ q hq => by simp at hq; subst hq; simp) (fun p _ s H C cl fp => td_tests)
    (fun p hp _ s H C cl fp => ed_callTyN (T := "tuple") (Ka := fun ds => ds = [.lst [.int (fa * p.1), .int (fa * p.2.1), .int (fa * p.2.2)]]) call_tuple_of (fun ds e => by rw [e]; exact c1_tuple) T.tuple boot_tuple (ea_consN (K := fun d => d = .lst [.int (fa * p.1), .int (fa * p.2.1), .int (fa * p.2.2)]) (Kr := fun ds => ds = [])
      (ed_new (ef_lc [p.1, p.2.1, p.2.2] D.int (fun x => [(13, .int x)]) (fun _ => true) (fun x => .int (fa * x)) rfl scRi.nd (ei_tup (dv 12)) (blkOk_by (own := [("_law_part", 13)]) (by rfl))
        (fun s H C cl fp => pg_name (i := 13) scRi.nd rfl (.inl rfl)) (fun p _ => gd_name) (fun p _ q hq => by simp at hq; subst hq; simp) (fun p _ s H C cl fp => td_tests) (fun x hx _ s H C cl fp => ed_mul (dv 5) (dv 13) (.inr (by
          obtain ⟨q1, q2, q3⟩ := hps.bd p hp
          simp only [List.mem_cons, List.mem_singleton, List.not_mem_nil, or_false] at hx
          rcases hx with e | e | e <;> subst e <;> omega))) (Nat.le_of_ble_eq_true rfl)) fun ds e => by rw [e]; rfl) ea_nil fun d ds e1 e2 => by rw [e1, e2]))
    (by rw [hpl, sizeLine_eq]; omega) (Nat.le_of_ble_eq_true rfl) ?_ (sw_true rfl rfl rfl (by decide +kernel))
  rw [show ((ps.filter fun _ => true).map fun p => priceD (fa * p.1, fa * p.2.1, fa * p.2.2)) = (scaleP fa ps).map priceD by rw [List.filter_eq_self.mpr fun _ _ => rfl]; unfold scaleP; rw [List.map_map]; rfl]
  refine hs_for (K' := fun d => d = .bl true) (fun j r => ∃ x7, r = [.val .src, .val (calD c), .val (pricesD ps), .val (.int lim), .val (.int (levW c ps lim)), .val (.int fa), .val (pricesD (scaleP fa ps)), x7, .none, .none, .none, .none, .none, .none])
    rfl PassesOwn.never (ei_tup (ds := [.int 0, .int (fa - 1)]) (ed_tup (ea_cons ed_int (ea_cons (ed_sub (dv 5) ed_int) ea_nil)))) (pg_name (i := 7) scRi.nd rfl (.inl rfl)) ⟨_, rfl⟩ (fun d => [(7, d)]) (fun d _ => gd_name) ?_ (fun _ _ h => h) ?_
  · rintro H1 j d r' hd' ⟨x7, rfl⟩
    obtain ⟨r, rfl, r0, r1⟩ : ∃ r : Int, d = .int r ∧ 0 ≤ r ∧ r < fa := by
      have := List.mem_of_getElem? hd'
      simp only [List.mem_cons, List.mem_singleton, List.not_mem_nil, or_false] at this
      rcases this with e | e
      · exact ⟨0, e, by decide, by omega⟩
      · exact ⟨fa - 1, e, by omega, by omega⟩
    obtain ⟨k1, k2⟩ := sc r r0 r1
    refine hs_ifF (tt_is (td_neI (ed_call c2 (c, scaleP fa ps, fa * lim + r) (hr.mono (by decide)) (ea_cons (dv 1) (ea_cons (dv 6) (ea_cons (ed_add (ed_mul (dv 5) (dv 3) (.inr (by omega))) (dv 7)) ea_nil))) k1 fun _ h => h) (dv 4)) (by
      show (!decide (levW c (scaleP fa ps) (fa * lim + r) = _)) = false
      rw [k2]; simp)) ?_
    exact hs_nil fun σ H h => ⟨_, ⟨_, rfl⟩, h⟩
  · rintro r' ⟨x7, rfl⟩
    refine hs_ifF (tt_is (td_lt (ed_call c2 (c, ps, lim + 1) (hr.mono (by decide)) (ea_cons (dv 1) (ea_cons (dv 2) (ea_cons (ed_add (dv 3) ed_int) ea_nil))) b1.1 fun _ h => h) (dv 4)) (by
      show decide (levW c ps (lim + 1) < levW c ps lim) = false
      exact decide_eq_false (by omega))) ?_
    refine hs_setD 8 (d := .int (levW (plus1 c) ps lim)) (ed_call c3 (c, ps, lim) hr (ea_cons (dv 1) (ea_cons (dv 2) (ea_cons (dv 3) ea_nil))) ⟨hci, own12, more.1⟩ fun _ h => h) ?_ scRi.nd
    have mle := more.2
    refine hs_ifF (tt_is (PW.pt (tw_and (td_notN (dv 8)) fun _ => tw_and1 (td_lt (dv 8) (dv 4)))) (by rw [decide_eq_false (by omega)]; simp)) ?_
    refine hs_setLc 9 ps priceD (fun p => [(12, priceD p)]) (fun _ => true) (fun p d => ∃ p' : Price, d = priceD p' ∧ LeP p' p ∧ PriceB 6 p') rfl scRi.nd (ei_list (dv 2)) (blkOk_by (own := [("_law_price", 12)]) (by rfl))
      (fun s H C cl fp => pg_name (i := 12) scRi.nd rfl (.inl rfl)) (fun p _ => gd_name) (fun p _ q hq => by simp at hq; subst hq; simp) (fun p _ s H C cl fp => td_tests)
      (fun p hp _ s H C cl fp => ed_callTyN (T := "tuple") (Ka := fun ds => ∃ p' : Price, ds = [.lst [.int p'.1, .int p'.2.1, .int p'.2.2]] ∧ LeP p' p ∧ PriceB 6 p') (K := fun d => ∃ p' : Price, d = priceD p' ∧ LeP p' p ∧ PriceB 6 p') call_tuple_of (fun ds ⟨p', e, h⟩ => by
          subst e
          exact fun W H vs Q ok rs q => c1_tuple W H vs Q ok rs fun v H2 d kd e rv => q v H2 d ⟨p', kd, h⟩ e rv) T.tuple boot_tuple (ea_consN (K := fun d => ∃ p' : Price, d = .lst [.int p'.1, .int p'.2.1, .int p'.2.2] ∧ LeP p' p ∧ PriceB 6 p') (Kr := fun ds => ds = [])
        (ed_new (ef_lcN [p.1, p.2.1, p.2.2] D.int (fun x => [(13, .int x)]) (fun _ => true) (fun x d => ∃ z : Int, d = .int z ∧ 0 ≤ z ∧ z ≤ x) rfl scRi.nd (ei_tup (dv 12)) (blkOk_by (own := [("_law_part", 13)]) (by rfl))
          (fun s H C cl fp => pg_name (i := 13) scRi.nd rfl (.inl rfl)) (fun p _ => gd_name) (fun p _ q hq => by simp at hq; subst hq; simp) (fun p _ s H C cl fp => td_tests)
          (fun x hx _ s H C cl fp => by
            have hx0 : 0 ≤ x := by
              obtain ⟨q1, q2, q3⟩ := hps.bd p hp
              simp only [List.mem_cons, List.mem_singleton, List.not_mem_nil, or_false] at hx
              rcases hx with e | e | e <;> subst e <;> omega
            exact ed_callBN (Ka := fun ds => ∃ y : Int, ds = [.int 0, .int y] ∧ y ≤ x) (call_max2 rfl) (fun ds ⟨y, e, hy⟩ => by
              subst e
              exact fun W H vs Q ok rs q => c1_max2 (i := 0) (j := y) W H vs Q ok rs fun v H2 d kd e rv => q v H2 d ⟨_, kd, by split <;> omega, by split <;> omega⟩ e rv) T.max boot_max
              (ea_consN (K := fun d => d = .int 0) (Kr := fun ds => ∃ y : Int, ds = [.int y] ∧ y ≤ x) ed_int (ea_consN (K := fun d => ∃ y : Int, d = .int y ∧ y ≤ x) (Kr := fun ds => ds = []) (ed_opN (Ka := fun d => d = .int x) (Kb := Below 2) op_sub (dv 13) (ed_call c1 2 (hr.mono (by decide)) (ea_cons (dv 0) (ea_cons ed_int ea_nil)) ⟨by decide, by decide⟩ fun _ h => h) fun dx dy e1 ⟨z, e2, z1, z2⟩ => by
                subst e1; subst e2
                exact Op2.imp (op2_I0 (dd := .int (x - z)) fun _ _ => rfl) fun d e => ⟨_, e, by omega⟩) ea_nil fun d ds ⟨y, e, h⟩ e2 => ⟨y, by rw [e, e2], h⟩) fun d ds e ⟨y, e2, h⟩ => ⟨y, by rw [e, e2], h⟩)) (Nat.le_of_ble_eq_true rfl)) fun ds hc => by
            obtain ⟨q1, q2, q3⟩ := hps.bd p hp
            simp only [CompK, if_true] at hc
            obtain ⟨d1, r1, g1, ⟨a, e1, a1, a2⟩, d2, r2, g2, ⟨b, e2, b1, b2⟩, d3, r3, g3, ⟨e, e3, c1, c2⟩, g4⟩ := hc
            exact ⟨(a, b, e), by rw [g1, g2, g3, g4, e1, e2, e3], ⟨a2, b2, c2⟩, ⟨a1, by show a ≤ 6; omega⟩, ⟨b1, by show b ≤ 6; omega⟩, c1, by show e ≤ 6; omega⟩) ea_nil fun d ds ⟨p', e, h⟩ e2 => ⟨p', by rw [e, e2], h⟩))
      (by rw [hpl, sizeLine_eq]; omega) (Nat.le_of_ble_eq_true rfl) (fun ds hc => ?_) (sw_true rfl rfl rfl (by decide +kernel))
    obtain ⟨ps', e, hps', hle⟩ := compK_less hc
    subst e
    rw [hpl] at hps'
    have bl := LF.base c ps' lim hd hps' hl0 (by omega)
    have ml := LF.less c ps ps' lim hd hps hps' hle hl0
    refine hs_ifF (tt_is (td_lt (ed_call c2 (c, ps', lim) (hr.mono (by decide)) (ea_cons (dv 1) (ea_cons (dv 9) (ea_cons (dv 3) ea_nil))) bl.1 fun _ h => h) (dv 4)) (by
      show decide (levW c ps' lim < levW c ps lim) = false
      exact decide_eq_false (by omega))) ?_
    refine hs_setD 10 (d := calD (idleC c)) (ed_new (ed_cat (ds := c.map dayD) (es' := [dayD (lastO c, none)]) (dv 1) (ed_lst (ea_cons (ed_tup (ea_cons (ed_if (K := fun d => d = .int (lastO c)) (k := !(c.map dayD).isEmpty) (td_neL0 hu (dv 1) (ed_new (ef_lst ea_nil) fun ds e => by rw [e])) (fun h => ?_) (fun h => ?_)) (ea_cons ed_non ea_nil))) ea_nil)) (by rw [List.length_map, sizeLine_eq]; simp only [List.length_cons, List.length_nil]; omega)) fun ds e => by rw [e]; unfold idleC; show _ = D.lst _; rw [List.map_append]; rfl) ?_ scRi.nd
    · cases hq : c.getLast? with
      | none =>
        have : c = [] := List.getLast?_eq_none_iff.mp hq
        rw [this] at h; cases h
      | some p => exact ed_is (ed_ixT (ed_ixL (dv 1) (ed_neg ed_int) (atI_back (by rw [List.getLast?_map, hq]; rfl))) ed_int) (by unfold lastO; rw [hq])
    · have : c = [] := by
        cases c with
        | nil => rfl
        | cons a l => cases h
      exact ed_is ed_int (by rw [this]; rfl)
    refine hs_setD 11 (d := pricesD (ps ++ [(lim + 1, 0, 0)])) (ed_new (ed_cat (ds := ps.map priceD) (es' := [priceD (lim + 1, 0, 0)]) (dv 2) (ed_lst (ea_cons (ed_tup (ea_cons (ed_add (dv 3) ed_int) (ea_cons ed_int (ea_cons ed_int ea_nil)))) ea_nil)) (by rw [List.length_map, hpl, sizeLine_eq]; simp only [List.length_cons, List.length_nil]; omega)) fun ds e => by rw [e]; show _ = D.lst _; rw [List.map_append]; rfl) ?_ scRi.nd
    refine hs_retD (ed_eqI (ed_call c2 (idleC c, ps ++ [(lim + 1, 0, 0)], lim) (hr.mono (by decide)) (ea_cons (dv 10) (ea_cons (dv 11) (ea_cons (dv 3) ea_nil))) idle.1 fun _ h => h) (dv 4)) ?_
    show D.bl (decide (levW (idleC c) _ lim = levW c ps lim)) = .bl true
    rw [idle.2]; simp
end
end BR

set_option Elab.async false
set_option linter.all false
set_option maxRecDepth 100000
set_option maxHeartbeats 1000000
/-! W24: _law_long_right, _law_twelve_right. -/
namespace BR
open PySem L2 PySem.Spec PyProof.Rows PD
abbrev sLong : Stmt := top 52
abbrev sTwelve : Stmt := top 53
section
variable {X : Cx} {M : MW} {r : List (Option D)} {a b c : Expr} {pos : Pos} {Ka : D → Prop} {d : D} {Ks : List D → Prop}
theorem ed_repLN {k : Int} (ha : PE X a (tN M r Ka)) (hb : PE X b (tD M r (.int k))) (h : ∀ d, Ka d → ∃ ds, d = .lst ds ∧ ds.length * k.toNat ≤ sizeLine ∧ Ks (List.replicate k.toNat ds).flatten) (hk : -(2 ^ 63) ≤ k ∧ k < 2 ^ 63) : PE X (.BinOp a .Mult b pos) (tF M r Ks) :=
  (pe_op op_rep ha hb).wk fun σ H Q ⟨W, hs, ok, q⟩ => ⟨W, hs, ok, fun v H1 dx kx e1 rv => ⟨W, hs.ext ok e1, ok.ext e1, fun w H2 dy ky e2 rw' => by
    obtain ⟨ds, ed, hz, ks⟩ := h dx kx
    subst ed; subst ky
    have rv2 := rv.ext (ok.ext e1) e2
    obtain ⟨a, us, ev, n, h1, h2⟩ := rv2
    refine ⟨a, k, us, ev, rw', h1, hk.1, hk.2, by rw [h2.length]; exact hz, fun p hp => ?_⟩
    exact q p _ _ _ ks ((e1.trans e2).free ok hp) ((e1.trans e2).trans (.new hp)) upd_same (RepL.car ((Car.new hp).trans (Car.upd (W := W.add p) (.inr rfl))) _ _ (h2.rep _))⟩⟩
end
section
variable {X : Cx} {W : Wd} {H0 : Hp} {r : List PD.Slot} {rest : List Stmt} {E : Ends} {e : Expr} {pos pt : Pos} {kt : Nat} {es : List Expr} {Ks : List D → Prop} {gs : TGs} {n : Nat}
/-- a, b, c = a new list of three -/
theorem hs_unpL (he : PE X e (tF (pw X) (vis r) Ks)) (hg : PG X (.Tuple es kt pt) (gLst X.K n gs)) (u : List D → List (Nat × D)) (hu : ∀ ds, Ks ds → ds.length = n ∧ GDs (pw X) gs ds (u ds)) (k : ∀ ds, Ks ds → Hs X rest (At (pw X) W H0 (setsS (u ds) r)) E)
    (hs : swapsWithSole [.Tuple es kt pt] e pos.line X.env = pure false := by rfl) (hw : swappedStores [.Tuple es kt pt] e X.env = pure none := by rfl) (h3 : (assignEach [.Tuple es kt pt] X.env).map (·.2) = [assign (.Tuple es kt pt) X.env] := by rfl) :
    Hs X (.Assign [.Tuple es kt pt] e pos :: rest) (At (pw X) W H0 r) E := by
  refine hs_cons (M := fun σ H => ∃ z : { z : List D // Ks z }, At (pw X) W H0 (setsS (u z.1) r) σ H) (ps_asg he hg hs hw h3) (fun σ H ⟨own, a⟩ => ?_) (hs_ex fun z => k z.1 z.2)
  refine ⟨W.adds (OwnS own), a.slots, a.ok', fun p vs H2 ds ks hp e2 h2 rs => ?_⟩
  obtain ⟨hl, hgd⟩ := hu ds ks
  refine ⟨p, vs, rfl, .of h2, by rw [rs.length]; exact hl, hgd (W.adds (OwnS own)) σ H2 vs _ (RepL.car Car.back _ _ rs) fun σ' st => ?_⟩
  exact ⟨⟨ds, ks⟩, At.sets (a.go (Ext.adds.mp e2)) st⟩
end
/-- more is known of a new list -/
theorem ef_lcK {X : Cx} {M : MW} {r : List (Option D)} {e : Expr} {Ks Kq : List D → Prop} (h : PE X e (tF M r Ks)) (k : ∀ ds, Ks ds → Kq ds) : PE X e (tF M r Kq) := h.wk fun σ H Q ⟨W, hs, ok, q⟩ => ⟨W, hs, ok, fun p vs H2 ds ks => q p vs H2 ds (k ds ks)⟩
theorem flat_rep {α : Type} (x : α) : ∀ n : Nat, (List.replicate n [x]).flatten = List.replicate n x
  | 0 => rfl
  | n + 1 => by rw [List.replicate_succ, List.flatten_cons, flat_rep x n, List.replicate_succ]; rfl
def Unit1 (u : Int) : Prop := 1 ≤ u ∧ u ≤ 100000000000000000000
theorem pow20 : (10 : Int) ^ (20 : Int).toNat = 100000000000000000000 := by decide
theorem draw_small {n : Int} (h : 1 ≤ n) (h2 : n ≤ 100000000000000000000) : 0 < n ∧ n.natAbs < 2 ^ 100 := ⟨by omega, by
  have h3 : (100000000000000000000 : Nat) < 2 ^ 100 := by decide
  omega⟩
section
variable {P : Program} {w : World} {K : PySem.W.Frag} {mg : Str → Option Value} {base : Heap} {f C : Addr} {fd : FuncData}
/-- _law_draw(source, _law_choice(source, [1, b, 10 ** 20])) -/
theorem ed_drawn {X : Cx} {r : List (Option D)} {b : Int} {p1 p2 p3 p4 p5 p6 p7 p8 p9 p10 p12 p13 : Pos} {j1 j2 j3 j4 : Nat} (c1 : PD.Cal X.prog X.w X.K X.mg X.base 2 "_law_draw" ["_law_source_here", "_law_bound"] (spDraw (pw X))) (c2 : PD.Cal X.prog X.w X.K X.mg X.base 3 "_law_choice" ["_law_source_here", "_law_options"] (spChoice (pw X))) (hr : Room 3 X.A)
    (hb : 1 ≤ b ∧ b ≤ 100000000000000000000) (h0 : PE X (.Name "_law_source_here" p12) (tD (pw X) r .src)) (h1 : PE X (.Name "_law_source_here" p13) (tD (pw X) r .src))
    (hg : Gl X "_law_draw" := by rfl) (hg2 : Gl X "_law_choice" := by rfl) :
    PE X (.Call (.Name "_law_draw" p9) [.Name "_law_source_here" p12, .Call (.Name "_law_choice" p1) [.Name "_law_source_here" p13, .List [.Constant (.int 1) j1 p2, .Constant (.int b) j2 p3, .BinOp (.Constant (.int 10) j3 p4) .Pow (.Constant (.int 20) j4 p5) p6] p7] [] p8] [] p10) (tN (pw X) r (Below 100000000000000000000)) :=
  ed_callN (Ka := fun ds => ∃ n : Int, ds = [.src, .int n] ∧ 1 ≤ n ∧ n ≤ 100000000000000000000) c1 (hr.mono (by decide)) (ea_consN (K := fun d => d = .src) (Kr := fun ds => ∃ n : Int, ds = [.int n] ∧ 1 ≤ n ∧ n ≤ 100000000000000000000) h0
    (ea_consN (K := fun d => ∃ n : Int, d = .int n ∧ 1 ≤ n ∧ n ≤ 100000000000000000000) (Kr := fun ds => ds = []) (ed_call c2 [.int 1, .int b, .int 100000000000000000000] hr (ea_cons h1 (ea_cons (ed_lst (ea_cons ed_int (ea_cons ed_int (ea_cons (ed_is (ed_pow ed_int ed_int ⟨by decide, by decide, by decide⟩) (by rw [pow20])) ea_nil)))) ea_nil)) ⟨by show 0 < 3; decide, by show 3 < 1000000; decide⟩ (fun d hd => by
        simp only [List.mem_cons, List.mem_singleton, List.not_mem_nil, or_false] at hd
        rcases hd with e | e | e
        · exact ⟨1, e, by decide, by decide⟩
        · exact ⟨b, e, hb.1, hb.2⟩
        · exact ⟨_, e, by decide, by decide⟩) hg2) ea_nil (fun d ds ⟨n, e, h⟩ e2 => ⟨n, by rw [e, e2], h⟩)) (fun d ds e ⟨n, e2, h⟩ => ⟨n, by rw [e, e2], h⟩))
    (fun ds ⟨n, e, g1, g2⟩ => ⟨n, e, draw_small g1 g2, fun d ⟨z, ez, z1, z2⟩ => ⟨z, ez, z1, by omega⟩⟩) hg
abbrev NLo : List Str := ["_law_source_here", "_law_unit", "_law_days_in", "_law_prices_in", "_law_many", "_law_few"]
theorem scLo : FnScope NLo ["_law_source_here"] (defScope sLong) := ⟨rfl, rfl, rfl, by decide +kernel, rfl, by decide +kernel, by decide +kernel⟩
abbrev spOne (M : MW) : Sp := spO M (fun _ : Unit => [D.src]) (fun _ => True) (fun _ d => d = .bl true)
theorem ok_long (LF : LawFacts) (T : Txt mg) (c1 : PD.Cal P w K mg base 2 "_law_draw" ["_law_source_here", "_law_bound"] (spDraw ⟨P, w⟩)) (c2 : PD.Cal P w K mg base 3 "_law_choice" ["_law_source_here", "_law_options"] (spChoice ⟨P, w⟩)) (c3 : PD.Cal P w K mg base 6 "levels_within" ["calendar", "prices", "budget"] (spLevW ⟨P, w⟩))
    (c4 : PD.Cal P w K mg base 104 "cheapest_worst" ["calendar", "prices", "levels"] (spCW ⟨P, w⟩)) (F : Fun K "_law_long_right" "_law_long_right" sLong f fd) : FnOk P w K mg base CX0 105 f fd ["_law_source_here"] (spOne ⟨P, w⟩) := by
  refine fn_D F scLo (fun _ => rfl) (by decide) fun cdv A outer s H E W H0 i hr hp => ?_
  refine hs_set (K := fun d => ∃ u, d = .int u ∧ Unit1 u) 1 (ed_opN (Ka := fun d => d = .int 1) (Kb := Below 100000000000000000000) op_add ed_int (ed_drawn (b := 9) c1 c2 (hr.mono (by decide)) (by decide) (dv 0) (dv 0)) fun dx dy e1 ⟨z, e2, z1, z2⟩ => by
    subst e1; subst e2
    exact Op2.imp (op2_I0 (dd := .int (1 + z)) fun _ _ => rfl) fun d e => ⟨_, e, by omega, by omega⟩) (fun d ⟨u, e, hu⟩ => ?_) scLo.nd
  subst e
  have hLF := fun p => LF.long u p hu.1
  refine hs_parD (K1 := fun d => d = calD longC) (K2 := fun d => ∃ p : Price, (p = (u, 0, 0) ∨ p = (0, u, 0)) ∧ d = pricesD (List.replicate 100 p)) 2 3
    (ed_new (ed_repL (ds := [dayD (1, none)]) (k := 100) (ed_lst (ea_cons (ed_tup (ea_cons ed_int (ea_cons ed_non ea_nil))) ea_nil)) ed_int (by decide) (Nat.le_of_ble_eq_true rfl)) fun ds e => by
      rw [e]
      show D.lst (List.replicate 100 [dayD (1, none)]).flatten = D.lst (longC.map dayD)
      rw [flat_rep]
      unfold longC
      rw [List.map_replicate])
    (ed_new (ed_repLN (Ka := fun d => ∃ p : Price, (p = (u, 0, 0) ∨ p = (0, u, 0)) ∧ d = .lst [priceD p]) (Ks := fun ds => ∃ p : Price, (p = (u, 0, 0) ∨ p = (0, u, 0)) ∧ ds = (List.replicate 100 p).map priceD) (k := 100)
      (ed_new (ef_lstN (Ks := fun ds => ∃ p : Price, (p = (u, 0, 0) ∨ p = (0, u, 0)) ∧ ds = [priceD p]) (ea_consN (K := fun d => ∃ p : Price, (p = (u, 0, 0) ∨ p = (0, u, 0)) ∧ d = priceD p) (Kr := fun ds => ds = [])
        (ed_call c2 [priceD (u, 0, 0), priceD (0, u, 0)] (hr.mono (by decide)) (ea_cons (dv 0) (ea_cons (ed_lst (ea_cons (ed_tup (ea_cons (dv 1) (ea_cons ed_int (ea_cons ed_int ea_nil)))) (ea_cons (ed_tup (ea_cons ed_int (ea_cons (dv 1) (ea_cons ed_int ea_nil)))) ea_nil))) ea_nil)) ⟨by show 0 < 2; decide, by show 2 < 1000000; decide⟩ fun d hd => by
          simp only [List.mem_cons, List.mem_singleton, List.not_mem_nil, or_false] at hd
          rcases hd with e | e
          · exact ⟨_, .inl rfl, e⟩
          · exact ⟨_, .inr rfl, e⟩) ea_nil fun d ds ⟨p, h, e⟩ e2 => ⟨p, h, by rw [e, e2]⟩) fun ds ⟨p, h, e⟩ => by rw [e]; exact Nat.le_of_ble_eq_true rfl) fun ds ⟨p, h, e⟩ => ⟨p, h, by rw [e]⟩)
      ed_int (fun d ⟨p, h, e⟩ => ⟨_, e, Nat.le_of_ble_eq_true rfl, p, h, by
        show (List.replicate 100 [priceD p]).flatten = _
        rw [flat_rep, List.map_replicate]⟩) (by decide)) fun ds ⟨p, h, e⟩ => ⟨p, h, by rw [e]⟩) rfl scLo.nd (fun d d2 e1 ⟨p, hpp, e2⟩ => ?_) (by decide)
  subst e1; subst e2
  obtain ⟨g1, g2⟩ := hLF p hpp
  refine hs_parD (K1 := fun d => ∃ m : Nat, d = .int (m : Nat) ∧ 1 ≤ m ∧ m ≤ 101) (K2 := Below 7) 4 5 (ed_opN (Ka := fun d => d = .int 1) (Kb := Below 101) op_add ed_int (ed_call c1 101 (hr.mono (by decide)) (ea_cons (dv 0) (ea_cons ed_int ea_nil)) (draw_small (by decide) (by decide)) fun _ h => h) fun dx dy e1 ⟨z, e2, z1, z2⟩ => by
      subst e1; subst e2
      exact Op2.imp (op2_I0 (dd := .int (1 + z)) fun _ _ => rfl) fun d e => ⟨(1 + z).toNat, by rw [e]; congr 1; omega, by omega, by omega⟩)
    (ed_call c1 7 (hr.mono (by decide)) (ea_cons (dv 0) (ea_cons ed_int ea_nil)) (draw_small (by decide) (by decide)) fun _ h => h) rfl scLo.nd (fun d d2 ⟨m, e1, m1, m2⟩ ⟨few, e2, f1, f2⟩ => ?_) (by decide)
  subst e1; subst e2
  obtain ⟨k1, k2⟩ := g1 m m1 m2
  have g3 := g2 few
  refine hs_ifF (tt_is (td_neI (i := u * ((m : Int) - 1)) (ed_ixTK (Ka := fun d => ∃ x, d = .tup [.int (u * ((m : Int) - 1)), x]) (ed_call c4 (longC, List.replicate 100 p, m) hr (ea_cons (dv 2) (ea_cons (dv 3) (ea_cons (dv 4) ea_nil))) k1 fun d ⟨x, e⟩ => ⟨x, by rw [e]; show D.tup [.int (cwCost longC (List.replicate 100 p) m), x] = _; rw [k2]⟩) ed_int fun x ⟨y, e⟩ => ⟨_, e, rfl⟩)
    (ed_mul (dv 1) (ed_sub (dv 4) ed_int) (.inr (by omega)))) (by simp)) ?_
  refine hs_retD (ed_eqI (i := few + 1) (ed_callN (Ka := fun ds => ∃ r : Int, 0 ≤ r ∧ r < u ∧ ds = [calD longC, pricesD (List.replicate 100 p), .int (u * few + r)]) c3 (hr.mono (by decide)) (ea_consN (K := fun d => d = calD longC) (Kr := fun ds => ∃ r : Int, 0 ≤ r ∧ r < u ∧ ds = [pricesD (List.replicate 100 p), .int (u * few + r)]) (dv 2)
      (ea_consN (K := fun d => d = pricesD (List.replicate 100 p)) (Kr := fun ds => ∃ r : Int, 0 ≤ r ∧ r < u ∧ ds = [.int (u * few + r)]) (dv 3)
      (ea_consN (K := fun d => ∃ r : Int, 0 ≤ r ∧ r < u ∧ d = .int (u * few + r)) (Kr := fun ds => ds = []) (ed_opN (Ka := fun d => d = .int (u * few)) (Kb := Below u) op_add (ed_mul (dv 1) (dv 5) (.inr (by omega))) (ed_call c1 u (hr.mono (by decide)) (ea_cons (dv 0) (ea_cons (dv 1) ea_nil)) (draw_small hu.1 hu.2) fun _ h => h) fun dx dy e1 ⟨z, e2, z1, z2⟩ => by
          subst e1; subst e2
          exact Op2.imp (op2_I0 (dd := .int (u * few + z)) fun _ _ => rfl) fun d e => ⟨z, z1, z2, e⟩) ea_nil fun d ds ⟨r, r1, r2, e⟩ e2 => ⟨r, r1, r2, by rw [e, e2]⟩) fun d ds e ⟨r, r1, r2, e2⟩ => ⟨r, r1, r2, by rw [e, e2]⟩) fun d ds e ⟨r, r1, r2, e2⟩ => ⟨r, r1, r2, by rw [e, e2]⟩)
      fun ds ⟨r, r1, r2, e⟩ => ⟨(longC, List.replicate 100 p, u * few + r), e, (g3 r f1 (by omega) r1 r2).1, fun d od => by
        rw [show d = D.int (levW longC (List.replicate 100 p) (u * few + r)) from od, (g3 r f1 (by omega) r1 r2).2]⟩) (ed_add (dv 5) ed_int)) (by simp)
abbrev NTw : List Str := ["_law_source_here", "_law_daily", "_law_each", "_law_broken_so", "_law_days_in", "_law_prices_in", "_law_costs_in", "_law_many", "_law_limit", "_law_part", "_law_number", "_law_cost"]
theorem scTw : FnScope NTw ["_law_source_here"] (defScope sTwelve) := ⟨rfl, rfl, rfl, by decide +kernel, rfl, by decide +kernel, by decide +kernel⟩
def uTw : List D → List (Nat × D)
  | [a, b, c] => [(1, a), (2, b), (3, c)]
  | _ => []
theorem ok_twelve (LF : LawFacts) (T : Txt mg) (c1 : PD.Cal P w K mg base 2 "_law_draw" ["_law_source_here", "_law_bound"] (spDraw ⟨P, w⟩)) (c2 : PD.Cal P w K mg base 3 "_law_choice" ["_law_source_here", "_law_options"] (spChoice ⟨P, w⟩)) (c3 : PD.Cal P w K mg base 6 "levels_within" ["calendar", "prices", "budget"] (spLevW ⟨P, w⟩))
    (c4 : PD.Cal P w K mg base 104 "cheapest_worst" ["calendar", "prices", "levels"] (spCW ⟨P, w⟩)) (F : Fun K "_law_twelve_right" "_law_twelve_right" sTwelve f fd) : FnOk P w K mg base CX0 105 f fd ["_law_source_here"] (spOne ⟨P, w⟩) := by
  refine fn_D F scTw (fun _ => rfl) (by decide) fun cdv A outer s H E W H0 i hr hp => ?_
  refine hs_unpL (n := 3) (Ks := fun ds => ∃ d e b : Int, ds = [.int d, .int e, .int b] ∧ 0 ≤ d ∧ 0 ≤ e ∧ 0 ≤ b) (ef_lcK (Kq := fun ds => ∃ d e b : Int, ds = [.int d, .int e, .int b] ∧ 0 ≤ d ∧ 0 ≤ e ∧ 0 ≤ b) (ef_lcN (upTo 0 3) D.int (fun i => [(9, .int i)]) (fun _ => true) (fun _ d => Below 100000000000000000000 d) rfl scTw.nd (by rw [upTo_enc]; exact ei_range1 (n := 3) T.range (ea_cons ed_int ea_nil) (by decide) (by decide)) (blkOk_by (own := [("_law_part", 9)]) (by rfl))
      (fun s H C cl fp => pg_name (i := 9) scTw.nd rfl (.inl rfl)) (fun i _ => gd_name) (fun i _ q hq => by simp at hq; subst hq; simp) (fun i _ s H C cl fp => td_tests)
      (fun i _ _ s H C cl fp => ed_drawn (b := 5) c1 c2 (hr.mono (by decide)) (by decide) (dv 0) (dv 0)) (Nat.le_of_ble_eq_true rfl)) fun ds hc => by
        have hu : upTo 0 3 = [0, 1, 2] := by decide
        rw [hu] at hc
        simp only [CompK, if_true] at hc
        obtain ⟨d1, r1, q1, ⟨a, e1, a1, a2⟩, d2, r2, q2, ⟨b, e2, b1, b2⟩, d3, r3, q3, ⟨e, e3, c1, c2⟩, q4⟩ := hc
        exact ⟨a, b, e, by rw [q1, q2, q3, q4, e1, e2, e3], a1, b1, c1⟩)
    (pg_lst rfl (pgs_cons (pg_name (i := 1) scTw.nd rfl (.inr rfl)) (pgs_cons (pg_name (i := 2) scTw.nd rfl (.inr rfl)) (pgs_cons (pg_name (i := 3) scTw.nd rfl (.inr rfl)) pgs_nil)))) uTw (fun ds ⟨d, e, b, h, _⟩ => by
      subst h
      exact ⟨rfl, gd_cons gd_name (gd_cons gd_name (gd_cons gd_name gd_nil))⟩) (fun ds ⟨d, e, b, h, hd, he, hb⟩ => ?_)
  subst h
  have hLF := fun o => LF.twelve d e b o hd he hb
  refine hs_parD (K1 := fun x => ∃ o : Option Int, (o = none ∨ o = some 2) ∧ x = calD [(12, o)]) (K2 := fun x => x = pricesD [(d, e, b)]) 4 5
    (ed_new (ef_lstN (Ks := fun ds => ∃ o : Option Int, (o = none ∨ o = some 2) ∧ ds = [dayD (12, o)]) (ea_consN (K := fun x => ∃ o : Option Int, (o = none ∨ o = some 2) ∧ x = dayD (12, o)) (Kr := fun ds => ds = [])
      (ed_tupN (Ks := fun ds => ∃ o : Option Int, (o = none ∨ o = some 2) ∧ ds = [.int 12, optD o]) (ea_consN (K := fun x => x = .int 12) (Kr := fun ds => ∃ o : Option Int, (o = none ∨ o = some 2) ∧ ds = [optD o]) ed_int (ea_consN (K := fun x => ∃ o : Option Int, (o = none ∨ o = some 2) ∧ x = optD o) (Kr := fun ds => ds = [])
        (ed_call c2 [.non, .int 2] (hr.mono (by decide)) (ea_cons (dv 0) (ea_cons (ed_lst (ea_cons ed_non (ea_cons ed_int ea_nil))) ea_nil)) ⟨by decide, by decide⟩ fun x hx => by
          simp only [List.mem_cons, List.mem_singleton, List.not_mem_nil, or_false] at hx
          rcases hx with g | g
          · exact ⟨none, .inl rfl, g⟩
          · exact ⟨some 2, .inr rfl, g⟩) ea_nil fun x ds ⟨o, h, g⟩ g2 => ⟨o, h, by rw [g, g2]⟩) fun x ds g ⟨o, h, g2⟩ => ⟨o, h, by rw [g, g2]⟩) fun ds ⟨o, h, g⟩ => ⟨by rw [g]; exact Nat.le_of_ble_eq_true rfl, o, h, by rw [g]⟩) ea_nil fun x ds ⟨o, h, g⟩ g2 => ⟨o, h, by rw [g, g2]⟩)
      fun ds ⟨o, h, g⟩ => by rw [g]; exact Nat.le_of_ble_eq_true rfl) fun ds ⟨o, h, g⟩ => ⟨o, h, by rw [g]; rfl⟩)
    (ed_lst (ea_cons (ed_tup (ea_cons (dv 1) (ea_cons (dv 2) (ea_cons (dv 3) ea_nil)))) ea_nil)) rfl scTw.nd (fun x x2 ⟨o, ho, g⟩ g2 => ?_) (by decide)
  subst g; subst g2
  obtain ⟨f1, f2⟩ := hLF o ho
  refine hs_setD 6 (d := intsD (costs12 d e b)) (ed_new (ed_cat (ds := [.int 0]) (es' := ((upTo 1 12).map fun j => d + (e + b) * j).map D.int) (ed_lst (ea_cons ed_int ea_nil)) (ed_new (ef_lc (upTo 1 12) D.int (fun i => [(10, .int i)]) (fun _ => true) (fun j => .int (d + (e + b) * j)) rfl scTw.nd
      (by rw [upTo_enc, show (12 : Nat) = (13 - 1 : Int).toNat by decide]; exact ei_range2 (l := 1) (n := 13) T.range (ea_cons ed_int (ea_cons ed_int ea_nil)) (by decide)) (blkOk_by (own := [("_law_number", 10)]) (by rfl))
      (fun s H C cl fp => pg_name (i := 10) scTw.nd rfl (.inl rfl)) (fun i _ => gd_name) (fun i _ q hq => by simp at hq; subst hq; simp) (fun i _ s H C cl fp => td_tests)
      (fun j hj _ s H C cl fp => ed_add (dv 1) (ed_mul (ed_add (dv 2) (dv 3)) (dv 10) (.inr (by have := upTo_mem hj; omega)))) (Nat.le_of_ble_eq_true rfl)) fun ds g => by rw [g, List.filter_eq_self.mpr fun _ _ => rfl, List.map_map]; rfl) (Nat.le_of_ble_eq_true rfl)) fun ds g => by rw [g]; rfl) ?_ scTw.nd
  have hcl : (costs12 d e b).length = 13 := by simp [costs12, upTo]
  have hc0 : ∀ x ∈ costs12 d e b, 0 ≤ x := fun x hx => by
    unfold costs12 at hx
    rcases List.mem_cons.mp hx with g | g
    · rw [g]; exact Int.le_refl _
    · obtain ⟨j, hj, g⟩ := List.mem_map.mp g
      have := upTo_mem hj
      have h1 : 0 ≤ (e + b) * j := Int.mul_nonneg (by omega) (by omega)
      omega
  generalize costs12 d e b = cs at f1 f2 hcl hc0
  refine hs_set (K := fun x => ∃ m : Nat, x = .int (m : Nat) ∧ 1 ≤ m ∧ m ≤ 13) 7 (ed_opN (Ka := fun d => d = .int 1) (Kb := Below 13) op_add ed_int (ed_call c1 13 (hr.mono (by decide)) (ea_cons (dv 0) (ea_cons ed_int ea_nil)) (draw_small (by decide) (by decide)) fun _ h => h) fun dx dy e1 ⟨z, e2, z1, z2⟩ => by
      subst e1; subst e2
      exact Op2.imp (op2_I0 (dd := .int (1 + z)) fun _ _ => rfl) fun d e => ⟨(1 + z).toNat, by rw [e]; congr 1; omega, by omega, by omega⟩) (fun x ⟨m, g, m1, m2⟩ => ?_) scTw.nd
  subst g
  obtain ⟨k1, k2⟩ := f1 m m1 m2
  have hat : atI (cs.map D.int) (((m : Nat) : Int) - 1) = some (.int (cs.getD (m - 1) 0)) := by
    have := at_map (g := D.int) (xs := cs) (i := ((m : Nat) : Int) - 1) (z := 0) (by omega) (by omega)
    rw [show (((m : Nat) : Int) - 1).toNat = m - 1 by omega] at this
    exact this
  have hcm : 0 ≤ cs.getD (m - 1) 0 := by
    rw [List.getD_eq_getElem?_getD, List.getElem?_eq_getElem (by omega)]
    exact hc0 _ (List.getElem_mem _)
  generalize cs.getD (m - 1) 0 = cm at k2 hat hcm
  refine hs_set (K := fun x => ∃ z : Int, x = .int z ∧ 0 ≤ z) 8 (ed_opN (Ka := fun x => x = .int cm) (Kb := Below 9) op_add (ed_ixL (dv 6) (ed_sub (dv 7) ed_int) hat) (ed_call c1 9 (hr.mono (by decide)) (ea_cons (dv 0) (ea_cons ed_int ea_nil)) (draw_small (by decide) (by decide)) fun _ h => h) fun dx dy e1 ⟨z, e2, z1, z2⟩ => by
      subst e1; subst e2
      exact Op2.imp (op2_I0 (dd := .int (cm + z)) fun _ _ => rfl) fun d e => ⟨_, e, by omega⟩) (fun x ⟨lim, g, l0⟩ => ?_) scTw.nd
  subst g
  obtain ⟨g1, g2⟩ := f2 lim l0
  refine hs_ifF (tt_is (td_neI (i := cm) (ed_ixTK (Ka := fun x => ∃ y, x = .tup [.int cm, y]) (ed_call c4 ([(12, o)], [(d, e, b)], m) hr (ea_cons (dv 4) (ea_cons (dv 5) (ea_cons (dv 7) ea_nil))) k1 fun x ⟨y, g⟩ => ⟨y, by rw [g]; show D.tup [.int (cwCost [(12, o)] [(d, e, b)] m), y] = _; rw [k2]⟩) ed_int fun x ⟨y, g⟩ => ⟨_, g, rfl⟩)
    (ed_ixL (dv 6) (ed_sub (dv 7) ed_int) hat)) (by simp)) ?_
  refine hs_retD (ed_eqI (ed_call c3 ([(12, o)], [(d, e, b)], lim) (hr.mono (by decide)) (ea_cons (dv 4) (ea_cons (dv 5) (ea_cons (dv 8) ea_nil))) g1 fun _ h => h) (ed_lenL T.len (ea_cons (ed_new (ef_lc cs D.int (fun x => [(11, .int x)]) (fun x => decide (x ≤ lim)) D.int rfl scTw.nd (ei_list (dv 6)) (blkOk_by (own := [("_law_cost", 11)]) (by rfl))
        (fun s H C cl fp => pg_name (i := 11) scTw.nd rfl (.inl rfl)) (fun p _ => gd_name) (fun p _ q hq => by simp at hq; subst hq; simp) (fun x _ s H C cl fp => td_test1 (td_le (dv 11) (dv 8))) (fun x _ _ s H C cl fp => dv 11) (by rw [hcl, sizeLine_eq]; decide)) fun ds e => by rw [e]) ea_nil))) ?_
  show D.bl (decide (levW [(12, o)] [(d, e, b)] lim = _)) = .bl true
  rw [g2, List.length_map]
  simp
end
end BR

set_option Elab.async false
set_option linter.all false
set_option maxRecDepth 100000
set_option maxHeartbeats 1000000
/-! W25: the law. -/
namespace BR
open PySem L2 PySem.Spec PyProof.Rows PD
abbrev sLaw : Stmt := top 54
theorem drawn_mono {md : Nat} {mo mo' : Int} {c : Cal} (h : Drawn md mo c) (hm : mo ≤ mo') : Drawn md mo' c := ⟨h.len, fun i p hp => let ⟨a, b, c⟩ := h.day i p hp; ⟨a, by omega, c⟩⟩
theorem ints_flat (ns : List Int) : noS (intsD ns) = true := by
  show noSs _ = true
  rw [noSs_all, List.all_map]
  exact List.all_eq_true.mpr fun _ _ => rfl
section
variable {P : Program} {w : World} {K : PySem.W.Frag} {mg : Str → Option Value} {base : Heap} {f C : Addr} {fd : FuncData}
abbrev NLa : List Str := ["_law_script", "_law_k", "_law_cell", "_law_source_here", "_law_days_in", "_law_rows_so", "_law_free", "_law_prices_in", "_law_limit"]
theorem scLa : FnScope NLa ["_law_script"] (defScope sLaw) := ⟨rfl, rfl, rfl, by decide +kernel, rfl, by decide +kernel, by decide +kernel⟩
abbrev spLaw (K : PySem.W.Frag) (M : MW) : Sp := spO M (fun i : D × List Int => [i.1]) (fun i => Scr K i.1 i.2 ∧ i.2.length ≤ 63) (fun _ d => d = .bl true)
/-- what the law calls -/
structure Calls (P : Program) (w : World) (K : PySem.W.Frag) (mg : Str → Option Value) (base : Heap) : Prop where
  twelve : PD.Cal P w K mg base 105 "_law_twelve_right" ["_law_source_here"] (spOne ⟨P, w⟩)
  long : PD.Cal P w K mg base 105 "_law_long_right" ["_law_source_here"] (spOne ⟨P, w⟩)
  source : PD.Cal P w K mg base 1 "_law_source" ["_law_cell"] (spSrc ⟨P, w⟩)
  days : PD.Cal P w K mg base 4 "_law_days" ["_law_source_here", "_law_most_days", "_law_most_owned"] (spDays ⟨P, w⟩)
  rows : PD.Cal P w K mg base 2 "_law_rows" ["_law_days_in"] (spRo ⟨P, w⟩)
  prices : PD.Cal P w K mg base 4 "_law_prices" ["_law_source_here", "_law_days_in", "_law_wide"] (spPr ⟨P, w⟩)
  lev : PD.Cal P w K mg base 6 "levels_within" ["calendar", "prices", "budget"] (spLevW ⟨P, w⟩)
  cnt : PD.Cal P w K mg base 5 "count_rows" ["calendar"] (spCountRows ⟨P, w⟩)
  breaks : PD.Cal P w K mg base 7 "_law_breaks_right" ["_law_source_here", "_law_days_in", "_law_rows_so"] (spBk ⟨P, w⟩)
  right : PD.Cal P w K mg base 9 "_law_right" pRi (spRi ⟨P, w⟩)
  choice : PD.Cal P w K mg base 3 "_law_choice" ["_law_source_here", "_law_options"] (spChoice ⟨P, w⟩)
  draw : PD.Cal P w K mg base 2 "_law_draw" ["_law_source_here", "_law_bound"] (spDraw ⟨P, w⟩)
  steps : PD.Cal P w K mg base 105 "_law_steps_right" pSt (spSt ⟨P, w⟩)
def uLa : D → List (Nat × D)
  | .tup [a, b] => [(1, a), (2, b)]
  | _ => []
theorem last_cell (ns : List Int) : atI (([0] ++ ns).map D.int) (-1) = some (.int (([0] ++ ns).getLast (by simp))) := by
  refine atI_back ?_
  rw [List.getLast?_map, List.getLast?_eq_getLast (by simp)]
  rfl
/-- one turn, behind the draws of the calendar -/
theorem law_turn {cdv : Value} {A : Around} {outer : List Env} {s : Shared} {H H1 : Hp} {E : XK} {W : Wd} {dS : D} {c : Cal} {x1 x2 : D} (LF : LawFacts) (T : Txt mg) (CC : Calls P w K mg base) (hr : Room 105 (A.deeper (envOfC "law" (defScope sLaw) s.heap.objs.size f cdv))) (hc : Drawn 4 3 c) :
    Hs (cxOf CX0 P w K mg base NLa "law" (defScope sLaw) f cdv A outer s H E).nox ((match (defBody sLaw).getD 2 (.Pass ⟨0, 0, 0, 0⟩) with
      | .For _ _ b _ _ => b
      | _ => []).drop 2) (At ⟨P, w⟩ W H1 [.val dS, .val x1, .val x2, .val .src, .val (calD c), .none, .none, .none, .none])
      { nx := fun σ H => ∃ r', (r' = [.val dS, .none, .none, .none, .none, .none, .none, .none, .none]) ∧ At ⟨P, w⟩ W H1 r' σ H, ct := fun σ H => ∃ r', (r' = [.val dS, .none, .none, .none, .none, .none, .none, .none, .none]) ∧ At ⟨P, w⟩ W H1 r' σ H, rt := Rt ⟨P, w⟩ W H1 (fun d => d = .bl true) } := by
  have hcl := hc.len
  obtain ⟨hci, htab, hcnt⟩ := LF.cnt c hc
  obtain ⟨hrne, hrows⟩ := LF.rows c hc
  have own12 : ∀ d, 0 ≤ at1 (owned c) d ∧ at1 (owned c) d ≤ 12 := fun d => owned_at hci.ok
  have e30 : (10 : Int) ^ (30 : Int).toNat = 1000000000000000000000000000000 := by decide
  refine hs_parD (K1 := fun d => d = .lst ((rowsN c c.length).map rowD)) (K2 := fun d => d = pricesD (freeP c)) 5 6 (ed_call CC.rows c (hr.mono (by decide)) (ea_cons (dv 4) ea_nil) ⟨hcl, fun d => (own12 d).1, fun d => (own12 d).2⟩ fun _ h => h)
    (ed_new (ed_repL (ds := [priceD (0, 0, 0)]) (k := (c.length : Nat)) (ed_lst (ea_cons (ed_tup (ea_cons ed_int (ea_cons ed_int (ea_cons ed_int ea_nil)))) ea_nil)) (ed_is (ed_lenL T.len (ea_cons (dv 4) ea_nil)) (by rw [List.length_map])) (by omega) (by rw [List.length_singleton, Int.toNat_natCast, sizeLine_eq]; omega)) fun ds e => by
      rw [e, Int.toNat_natCast, flat_rep]
      show _ = D.lst ((freeP c).map priceD)
      unfold freeP
      rw [List.map_replicate]) rfl scLa.nd (fun d d2 e1 e2 => ?_) (by decide)
  subst e1; subst e2
  refine hs_set (K := fun d => ∃ ps, d = pricesD ps ∧ PricesB c.length 6 ps) 7 (ed_call CC.prices c (hr.mono (by decide)) (ea_cons (dv 3) (ea_cons (dv 4) (ea_cons ed_int ea_nil))) (by show c.length ≤ 100; omega) fun _ h => h) (fun d ⟨ps, e, hps⟩ => ?_) scLa.nd
  subst e
  have elen : ((rowsN c c.length).map rowD).length = (rowsN c c.length).length := List.length_map _
  refine hs_for (K' := fun d => d = .bl true) (fun j r => ∃ x8, r = [.val dS, .val x1, .val x2, .val .src, .val (calD c), .val (.lst ((rowsN c c.length).map rowD)), .val (pricesD (freeP c)), .val (pricesD ps), x8])
    rfl PassesOwn.never (ei_tup (ds := [.int 0, .int 1000000000000000000000000000000]) (ed_tup (ea_cons ed_int (ea_cons (ed_is (ed_pow ed_int ed_int ⟨by decide, by decide, by decide⟩) (by rw [e30])) ea_nil)))) (pg_name (i := 8) scLa.nd rfl (.inl rfl)) ⟨_, rfl⟩ (fun d => [(8, d)]) (fun d _ => gd_name) ?_ (fun _ _ h => h) ?_
  · rintro H2 j d r' hd ⟨x8, rfl⟩
    obtain ⟨b, rfl, b0⟩ : ∃ b : Int, d = .int b ∧ 0 ≤ b := by
      have := List.mem_of_getElem? hd
      simp only [List.mem_cons, List.mem_singleton, List.not_mem_nil, or_false] at this
      rcases this with e | e
      · exact ⟨0, e, by decide⟩
      · exact ⟨_, e, by decide⟩
    obtain ⟨k1, k2⟩ := LF.free c b hc b0
    refine hs_ifF (tt_is (PW.pt (tw_or (td_neI (ed_call CC.lev (c, freeP c, b) (hr.mono (by decide)) (ea_cons (dv 4) (ea_cons (dv 6) (ea_cons (dv 8) ea_nil))) k1 fun _ h => h) (ed_is (ed_lenL T.len (ea_cons (dv 5) ea_nil)) (by rw [elen]))) fun _ => tw_or1 (td_neI (ed_call CC.cnt c (hr.mono (by decide)) (ea_cons (dv 4) ea_nil) ⟨hci, htab⟩ fun _ h => h) (ed_is (ed_lenL T.len (ea_cons (dv 5) ea_nil)) (by rw [elen]))))) (by
        show ((!decide (levW c (freeP c) b = _)) || (!decide (cnt c c.length [] = _))) = false
        rw [k2, hcnt]; simp)) ?_
    exact hs_nil fun σ H h => ⟨_, ⟨_, rfl⟩, h⟩
  · rintro r' ⟨x8, rfl⟩
    refine hs_ifF (td_not (k := true) (td_val (ed_call CC.breaks c (hr.mono (by decide)) (ea_cons (dv 3) (ea_cons (dv 4) (ea_cons (dv 5) ea_nil))) hc fun _ h => h))) ?_
    refine hs_ifF (td_not (k := true) (td_val (ed_callN (Ka := fun ds => ∃ l : Int, ds = [.src, calD c, pricesD ps, .int l] ∧ 0 ≤ l ∧ l ≤ 11) (K := fun d => d = .bl true) CC.right (hr.mono (by decide)) (ea_consN (K := fun d => d = .src) (Kr := fun ds => ∃ l : Int, ds = [calD c, pricesD ps, .int l] ∧ 0 ≤ l ∧ l ≤ 11) (dv 3) (ea_consN (K := fun d => d = calD c) (Kr := fun ds => ∃ l : Int, ds = [pricesD ps, .int l] ∧ 0 ≤ l ∧ l ≤ 11) (dv 4)
        (ea_consN (K := fun d => d = pricesD ps) (Kr := fun ds => ∃ l : Int, ds = [.int l] ∧ 0 ≤ l ∧ l ≤ 11) (dv 7) (ea_consN (K := fun d => ∃ l : Int, d = .int l ∧ 0 ≤ l ∧ l ≤ 11) (Kr := fun ds => ds = [])
          (ed_callN (Ka := fun ds => ∃ z : Int, ds = [.src, .lst [.int 0, .int 1, .int z]] ∧ 0 ≤ z ∧ z < 12) CC.choice (hr.mono (by decide)) (ea_consN (K := fun d => d = .src) (Kr := fun ds => ∃ z : Int, ds = [.lst [.int 0, .int 1, .int z]] ∧ 0 ≤ z ∧ z < 12) (dv 3) (ea_consN (K := fun d => ∃ z : Int, d = .lst [.int 0, .int 1, .int z] ∧ 0 ≤ z ∧ z < 12) (Kr := fun ds => ds = [])
              (ed_new (ef_lstN (Ks := fun ds => ∃ z : Int, ds = [.int 0, .int 1, .int z] ∧ 0 ≤ z ∧ z < 12) (ea_consN (K := fun d => d = .int 0) (Kr := fun ds => ∃ z : Int, ds = [.int 1, .int z] ∧ 0 ≤ z ∧ z < 12) ed_int (ea_consN (K := fun d => d = .int 1) (Kr := fun ds => ∃ z : Int, ds = [.int z] ∧ 0 ≤ z ∧ z < 12) ed_int (ea_consN (K := Below 12) (Kr := fun ds => ds = [])
                (ed_call CC.draw 12 (hr.mono (by decide)) (ea_cons (dv 3) (ea_cons ed_int ea_nil)) (draw_small (by decide) (by decide)) fun _ h => h) ea_nil fun d ds ⟨z, e, h⟩ e2 => ⟨z, by rw [e, e2], h⟩) fun d ds e ⟨z, e2, h⟩ => ⟨z, by rw [e, e2], h⟩) fun d ds e ⟨z, e2, h⟩ => ⟨z, by rw [e, e2], h⟩) fun ds ⟨z, e, h⟩ => by rw [e]; exact Nat.le_of_ble_eq_true rfl) fun ds ⟨z, e, h⟩ => ⟨z, by rw [e], h⟩) ea_nil fun d ds ⟨z, e, h⟩ e2 => ⟨z, by rw [e, e2], h⟩) fun d ds e ⟨z, e2, h⟩ => ⟨z, by rw [e, e2], h⟩)
            fun ds ⟨z, e, z1, z2⟩ => ⟨[.int 0, .int 1, .int z], e, ⟨by show 0 < 3; decide, by show 3 < 1000000; decide⟩, fun d hd => by
              simp only [List.mem_cons, List.mem_singleton, List.not_mem_nil, or_false] at hd
              rcases hd with e | e | e
              · exact ⟨0, e, by decide, by decide⟩
              · exact ⟨1, e, by decide, by decide⟩
              · exact ⟨z, e, z1, by omega⟩⟩) ea_nil fun d ds ⟨l, e, h⟩ e2 => ⟨l, by rw [e, e2], h⟩) fun d ds e ⟨l, e2, h⟩ => ⟨l, by rw [e, e2], h⟩) fun d ds e ⟨l, e2, h⟩ => ⟨l, by rw [e, e2], h⟩) fun d ds e ⟨l, e2, h⟩ => ⟨l, by rw [e, e2], h⟩)
        fun ds ⟨l, e, l0, l1⟩ => ⟨(c, ps, l), e, ⟨hc, hps, l0, l1⟩, fun _ h => h⟩))) ?_
    refine hs_ifF (td_not (k := true) (td_val (ed_call CC.steps (c, ps) hr (ea_cons (dv 3) (ea_cons (dv 4) (ea_cons (dv 7) (ea_cons (ed_is (ed_lenL T.len (ea_cons (dv 5) ea_nil)) (by rw [elen])) ea_nil)))) ⟨hc, hps⟩ fun _ h => h))) ?_
    refine hs_fgt 1 (hs_fgt 2 (hs_fgt 3 (hs_fgt 4 (hs_fgt 5 (hs_fgt 6 (hs_fgt 7 (hs_fgt 8 ?_)))))))
    exact hs_nil fun σ H h => ⟨_, rfl, h⟩
theorem ok_law (LF : LawFacts) (T : Txt mg) (CC : Calls P w K mg base) (F : Fun K "law" "law" sLaw f fd) : FnOk P w K mg base CX0 106 f fd ["_law_script"] (spLaw K ⟨P, w⟩) := by
  refine fn_D F scLa (fun _ => rfl) (by decide) fun cdv A outer s H E W H0 i hr hp => ?_
  obtain ⟨dS, ns⟩ := i
  obtain ⟨hsc, hl⟩ := hp
  simp only at hsc hl
  have hns := hsc.noS
  have hcell : ∀ {X : Cx} {r : List (Option D)} {e : Expr}, PE X e (tD (pw X) r (.int (([0] ++ ns).getLast (by simp)))) → PE X e (tN (pw X) r IntD) := fun h => ed_toN h
  refine hs_ifF (td_not (k := true) (td_val (ed_callSrc CC.twelve CC.source hr (hr.mono (by decide)) (ed_toN (ed_ixL (ed_new (ed_catS (ds := [.int 0]) hsc (ed_lst (ea_cons ed_int ea_nil)) (dv 0) (by rw [sizeLine_eq]; simp only [List.length_cons, List.length_nil]; omega)) fun ds e => by rw [e, List.map_append]; rfl) (ed_neg ed_int) (last_cell ns)))))) ?_
  refine hs_ifF (td_not (k := true) (td_val (ed_callSrc CC.long CC.source hr (hr.mono (by decide)) (ed_toN (ed_ixL (ed_new (ed_catS (ds := [.int 0]) hsc (ed_lst (ea_cons ed_int ea_nil)) (dv 0) (by rw [sizeLine_eq]; simp only [List.length_cons, List.length_nil]; omega)) fun ds e => by rw [e, List.map_append]; rfl) (ed_neg ed_int) (last_cell ns)))))) ?_
  refine hs_for (K' := fun d => d = .bl true) (fun j r => r = [.val dS, .none, .none, .none, .none, .none, .none, .none, .none])
    rfl PassesOwn.never (ei_en (b := false) (ds := (ns.take 3 ++ [0]).map D.int) T.enumerate (ea_cons (ed_new (ed_cat (ds := (ns.take 3).map D.int) (es' := [.int 0]) (ed_new (ed_sliceS hsc (dv 0) eo_none (eo_some (i := ((3 : Nat) : Int)) ed_int)) fun ds e => by rw [e, cut_take, List.map_take]) (ed_lst (ea_cons ed_int ea_nil)) (by rw [List.length_map, List.length_take, sizeLine_eq]; simp only [List.length_cons, List.length_nil]; omega)) fun ds e => by rw [e]) ea_nil) (by show D.lst _ = D.lst _; rw [List.map_append]; rfl))
    (pg_tup (n := 2) rfl (pgs_cons (pg_name (i := 1) scLa.nd rfl (.inl rfl)) (pgs_cons (pg_name (i := 2) scLa.nd rfl (.inl rfl)) pgs_nil))) rfl uLa (fun d hd => ?_) ?_ (fun _ _ h => h) ?_
  · obtain ⟨j, hj⟩ := List.getElem?_of_mem hd
    obtain ⟨x, _, e⟩ := enumD_at hj
    subst e
    exact gd_tup (gd_cons gd_name (gd_cons gd_name gd_nil))
  · rintro H1 j d r' hd rfl
    obtain ⟨cell, _, e⟩ := enumD_at hd
    subst e
    refine hs_src (Rn := fun r => r = [.val dS, .none, .none, .none, .none, .none, .none, .none, .none]) 3 (pe_src CC.source (hr.mono (by decide)) (ed_toN (dv 2))) (by
      show (noS dS && true) = true
      rw [hns]; rfl) (fun W' H1' => ?_) (fun r' e => by rw [e]; simp [flatS, hns]) (fun d e => by rw [e]; rfl) scLa.nd
    refine hs_set (K := fun d => ∃ c, d = calD c ∧ Drawn 4 3 c) 4 (ed_callN (Ka := fun ds => ∃ mo : Int, ds = [.src, .int ((4 : Nat) : Int), .int mo] ∧ 1 ≤ mo ∧ mo ≤ 3) CC.days (hr.mono (by decide)) (ea_consN (K := fun d => d = .src) (Kr := fun ds => ∃ mo : Int, ds = [.int ((4 : Nat) : Int), .int mo] ∧ 1 ≤ mo ∧ mo ≤ 3) (dv 3)
      (ea_consN (K := fun d => d = .int ((4 : Nat) : Int)) (Kr := fun ds => ∃ mo : Int, ds = [.int mo] ∧ 1 ≤ mo ∧ mo ≤ 3) ed_int (ea_consN (K := fun d => ∃ mo : Int, d = .int mo ∧ 1 ≤ mo ∧ mo ≤ 3) (Kr := fun ds => ds = []) (ed_if (k := decide ((0 : Int) + (j : Nat) = 0)) (td_eqI (dv 1) ed_int) (fun _ => ed_mono ed_int fun d e => ⟨3, e, by decide, by decide⟩) (fun _ => ed_mono ed_int fun d e => ⟨2, e, by decide, by decide⟩))
        ea_nil fun d ds ⟨mo, e, h⟩ e2 => ⟨mo, by rw [e, e2], h⟩) fun d ds e ⟨mo, e2, h⟩ => ⟨mo, by rw [e, e2], h⟩) fun d ds e ⟨mo, e2, h⟩ => ⟨mo, by rw [e, e2], h⟩)
      fun ds ⟨mo, e, h1, h2⟩ => ⟨(4, mo), e, ⟨Nat.le_refl _, h1, h2⟩, fun d ⟨c, ec, hc⟩ => ⟨c, ec, drawn_mono hc h2⟩⟩) (fun d ⟨c, e, hc⟩ => ?_) scLa.nd
    subst e
    exact @law_turn P w K mg base f cdv A outer s H H1' E W' dS c _ _ LF T CC hr hc
  · rintro r' rfl
    exact hs_retD ed_bl rfl
end
end BR

set_option Elab.async false
set_option linter.all false
set_option maxRecDepth 100000
set_option maxHeartbeats 1000000
/-! W26: with_pieces of no days raises; _law_more. -/
namespace BR
open PySem L2 PySem.Spec PyProof.Rows PD
/-- with_pieces of no days: an error of the class at C -/
def spWp0 (M : MW) (C : Addr) : Sp := fun vs H Q E => ∃ W : Wd, W.ok H ∧ RepL M W H [calD [], .int 1, .int 0, .int 1] vs ∧ ∀ d H', Ext W H H' → E (.ref C) (some d) H'
section
variable {P : Program} {w : World} {K : PySem.W.Frag} {mg : Str → Option Value} {base : Heap} {f C fI : Addr} {fd : FuncData}
/-- raise InvalidNumber(".."), in a def that errors leave -/
theorem hs_raise {X : Cx} {W : Wd} {H0 : Hp} {r : List PD.Slot} {rest : List Stmt} {E : Ends} {Wx : WX} {m : Str} {j : Nat} {p p2 pos pos2 : Pos} {k : Nat} (hc : X.calm = true) (T : PySem.LowX.LowTxt X.K X.mg C fI) (hr : Room k X.A) (tk : Takes X Wx) (h : ∀ d σ H, Ext W H0 H → Wx (.ref C) (some d) σ H)
    (hg : Gl X "InvalidNumber" := by rfl) (he : starEach [.Constant (.str m) j p2] X.env = (false, eval (.Constant (.str m) j p2) X.env) :: starEach [] X.env := by rfl) (hpl : (backTo pos (starEach [] X.env)).any (·.1) = false := by rfl) :
    Hs X (.Raise (some (.Call (.Name "InvalidNumber" p) [.Constant (.str m) j p2] [] pos)) none pos2 :: rest) (At (pw X) W H0 r) E := by
  refine hs_cons (M := fun _ _ => False) (ps_raiseLow hc T hr tk (pa_cons pe_str pa_nil he) hg he hpl) (fun σ H ⟨own, a⟩ => ?_) (hs_never fun _ _ h => h)
  exact ⟨_, rfl, fun d hd => h d σ _ (a.ext.trans (.new hd))⟩
theorem ok_wp0 (T : Txt mg) (L : PySem.LowX.LowTxt K mg C fI) (c1 : PD.Cal P w K mg base 4 "require_calendar" ["calendar"] (spReqCal ⟨P, w⟩)) (c2 : PD.Cal P w K mg base 2 "is_between" ["value", "low", "high"] (spBetween ⟨P, w⟩))
    (F : Fun K "with_pieces" "with_pieces" sWP f fd) : FnOk P w K mg base (L2.CX P w) 5 f fd ["calendar", "first", "last", "pieces"] (spWp0 ⟨P, w⟩ C) := by
  refine F.okX scWp (fun vs H Q E h => ?_) (fun cdv A outer s H vs Q E hr h => ?_)
  · obtain ⟨W, _, rs, _⟩ := h
    rw [rs.length]; rfl
  · obtain ⟨W, ok, rs, q⟩ := h
    have body : Hs (cxOf (L2.CX P w) P w K mg base NWp "with_pieces" (defScope sWP) f cdv A outer s H E) (defBody sWP) (At ⟨P, w⟩ W H [.val (calD []), .val (.int 1), .val (.int 0), .val (.int 1), .none, .none, .none, .none]) { nx := fun _ H' => Q .non H', rt := Q } := by
      refine hs_drop (K := fun _ => True) (ed_call c1 [] hr (ea_cons (dv 0) ea_nil) ⟨Nat.zero_le _, fun i p h => by simp at h⟩ fun _ _ => trivial) ?_
      refine hs_ifT (M := fun _ _ => False) (tt_is (td_not (td_val (ed_call c2 (1, 1, 0) (hr.mono (by decide)) (ea_cons (dv 1) (ea_cons ed_int (ea_cons (ed_is (ed_lenL (ds := []) T.len (ea_cons (dv 0) ea_nil)) rfl) ea_nil))) trivial fun _ h => h))) rfl) ?_ (hs_never fun _ _ h => h)
      exact hs_raise rfl L hr (takes_of rfl rfl rfl rfl) fun d σ H' e => q d H' e
    refine ⟨_, pss_hs (ι := Unit) fun _ => body, (), ?_, Le.refl _⟩
    obtain ⟨v0, r0, e0, h0, v1, r1, e1, h1, v2, r2, e2, h2, v3, r3, e3, h3, e4⟩ := rs
    have e4 : r3 = [] := e4
    subst e4; subst e3; subst e2; subst e1; subst e0
    refine ⟨fun _ => none, ok, .refl _ _, rfl, fun _ _ _ h => (nomatch h), fun _ _ h => (nomatch h), fun _ _ h => (nomatch h), fun j s' h => ?_⟩
    have wk : ∀ d v, Rep (⟨P, w⟩ : MW) W H d v → Rep ⟨P, w⟩ (W.adds (OwnS fun _ => none)) H d v := fun d v h => Rep.car (Car.newS fun p ⟨_, z⟩ => nomatch z) d v h
    match j, h with
    | 0, h => cases h; exact ⟨rfl, v0, rfl, wk _ _ h0⟩
    | 1, h => cases h; exact ⟨rfl, v1, rfl, wk _ _ h1⟩
    | 2, h => cases h; exact ⟨rfl, v2, rfl, wk _ _ h2⟩
    | 3, h => cases h; exact ⟨rfl, v3, rfl, wk _ _ h3⟩
    | 4, h => cases h; rfl
    | 5, h => cases h; rfl
    | 6, h => cases h; rfl
    | 7, h => cases h; rfl
abbrev NMr : List Str := ["_law_days_in", "_law_prices_in", "_law_limit", "_law_wide"]
theorem scMr : FnScope NMr ["_law_days_in", "_law_prices_in", "_law_limit"] (defScope sMore) := ⟨rfl, rfl, rfl, by decide +kernel, rfl, by decide +kernel, by decide +kernel⟩
theorem ok_more {fW : Addr} {fdW : FuncData} (T : Txt mg) (L : PySem.LowX.LowTxt K mg C fI) (c1 : PD.Cal P w K mg base 5 "with_pieces" ["calendar", "first", "last", "pieces"] (spWp ⟨P, w⟩)) (g1 : FnOk P w K mg base (L2.CX P w) 5 fW fdW ["calendar", "first", "last", "pieces"] (spWp0 ⟨P, w⟩ C))
    (gm : mg "with_pieces" = some (.ref fW)) (gk : PySem.W.keepIn K (.ref fW) = true) (gb : Binds K fdW ["calendar", "first", "last", "pieces"] []) (c2 : PD.Cal P w K mg base 7 "_law_levels" ["_law_days_in", "_law_prices_in", "_law_limit"] (spLevW ⟨P, w⟩))
    (F : Fun K "_law_more" "_law_more" sMore f fd) : FnOk P w K mg base CX0 8 f fd ["_law_days_in", "_law_prices_in", "_law_limit"] (spMore ⟨P, w⟩) := by
  refine fn_D F scMr (fun _ => rfl) (by decide) fun cdv A outer s H E W H0 i hr hp => ?_
  obtain ⟨c, ps, b⟩ := i
  obtain ⟨h1, h2, h3⟩ := hp
  simp only at h1 h2 h3
  have rest : Hs (cxOf CX0 P w K mg base NMr "_law_more" (defScope sMore) f cdv A outer s H E).nox ((defBody sMore).drop 1) (At ⟨P, w⟩ W H0 [.val (calD c), .val (pricesD ps), .val (.int b), .val (calD (plus1 c))])
      { nx := fun _ H' => Rt ⟨P, w⟩ W H0 (fun d => d = .int (levW (plus1 c) ps b)) .non H', rt := Rt ⟨P, w⟩ W H0 (fun d => d = .int (levW (plus1 c) ps b)) } :=
    hs_retD (ed_call c2 (plus1 c, ps, b) hr (ea_cons (dv 3) (ea_cons (dv 1) (ea_cons (dv 2) ea_nil))) h3 fun _ h => h) rfl
  by_cases z : c = []
  · subst z
    refine hs_cons (M := At ⟨P, w⟩ W H0 [.val (calD []), .val (pricesD ps), .val (.int b), .val (calD (plus1 []))]) (ps_try_only (tb := fun Wx => tAsg (tCallS (spWp0 ⟨P, w⟩ C) (WE Wx) (tAD ⟨P, w⟩ [some (calD []), some (pricesD ps), some (.int b), none] [calD [], .int 1, .int 0, .int 1])) (gName 3)) (ts := fun _ _ _ => tAsg (tVar 0) (gName 3)) (Wout := fun _ _ _ _ => False) rfl rfl ⟨rfl, by decide, .inl L.gC⟩ takes0
      (fun Wx pn xe tk _ => pss_one (ps_set (i := 3) scMr.nd rfl (.inl rfl) (by exact (pe_callS g1 (hr.mono (by decide)) rfl gm gk gb (fun σ => passAt tk σ) (by exact (ea_cons (dv 0) (ea_cons ed_int (ea_cons (ed_is (ed_lenL (ds := []) T.len (ea_cons (dv 0) ea_nil)) rfl) (ea_cons ed_int ea_nil)))))))))
      (fun a oe cls d pn _ _ => pss_one (ps_set (i := 3) scMr.nd rfl (.inl rfl) (pv 0)))) (fun σ H a => ?_) rest
    obtain ⟨own, a⟩ := a
    refine ⟨W.adds (OwnS own), a.slots, a.ok', fun vs H1 ds kd e1 rs => ?_⟩
    subst kd
    have a1 := a.go (Ext.adds.mp e1)
    refine ⟨W.adds (OwnS own), a.ok'.ext e1, rs, fun d H2 e2 => ?_⟩
    have a2 := a1.go (Ext.adds.mp e2)
    refine ⟨true, L.te, fun _ a0 _ => ?_, fun q => Bool.noConfusion q⟩
    obtain ⟨_, v, hv, rv⟩ := a2.sl 0 (.val (calD [])) rfl
    exact ⟨v, hv, (At.set (i := 3) a2 rv : At ⟨P, w⟩ W H0 [.val (calD []), .val (pricesD ps), .val (.int b), .val (calD [])] _ H2)⟩
  · refine hs_try (M := At ⟨P, w⟩ W H0 [.val (calD c), .val (pricesD ps), .val (.int b), .val (calD (plus1 c))]) ?_ rest
    refine hs_setD 3 (d := calD (plus1 c)) (ed_call c1 c (hr.mono (by decide)) (ea_cons (dv 0) (ea_cons ed_int (ea_cons (ed_is (ed_lenL T.len (ea_cons (dv 0) ea_nil)) (by rw [List.length_map])) (ea_cons ed_int ea_nil)))) ⟨h1, z, h2⟩ fun _ h => h) ?_ scMr.nd
    exact hs_nil fun σ H h => h
end
end BR

set_option Elab.async false
set_option linter.all false
set_option maxRecDepth 100000
set_option maxHeartbeats 1000000
/-! A2: states told by pasts. -/
namespace BR
open PD
/-- away on a day, by the pairs -/
def gl (l : Int) (p : Int × Int) : Int := if l < p.1 then p.2 else 0
theorem gone_eq (l : Int) : ∀ st : State, gone st l = (st.map (gl l)).sum
  | [] => rfl
  | p :: st => by
    have ih := gone_eq l st
    unfold gone at ih ⊢
    rw [List.filter_cons, List.map_cons, List.sum_cons]
    by_cases h : l < p.1
    · rw [if_pos (decide_eq_true h), List.map_cons, List.sum_cons, ih]
      unfold gl
      rw [if_pos h]
    · rw [if_neg (by rw [decide_eq_true_eq]; exact h), ih]
      unfold gl
      rw [if_neg h]; omega
theorem perm_sum {l l' : List Int} (h : l.Perm l') : l.sum = l'.sum := by
  induction h with
  | nil => rfl
  | cons x _ ih => rw [List.sum_cons, List.sum_cons, ih]
  | swap x y l => simp only [List.sum_cons]; omega
  | trans _ _ h1 h2 => rw [h1, h2]
theorem gone_perm {st st' : State} (h : st.Perm st') (l : Int) : gone st l = gone st' l := by
  rw [gone_eq, gone_eq]
  exact perm_sum (h.map _)
theorem valI_none {k : Int} : ∀ {st : State}, k ∉ st.map (·.1) → valI st k = none
  | [], _ => rfl
  | p :: st, h => by
    unfold valI
    rw [List.find?_cons]
    have h1 : ¬ p.1 = k := fun e => h (by rw [List.map_cons, e]; exact List.mem_cons_self)
    simp only [decide_eq_false h1]
    exact valI_none (st := st) fun z => h (by rw [List.map_cons]; exact List.mem_cons_of_mem _ z)
theorem any_key {k : Int} {st : State} : (st.any fun p => decide (p.1 = k)) = true ↔ k ∈ st.map (·.1) := by
  rw [List.any_eq_true, List.mem_map]
  simp
theorem putI_new {k v : Int} {st : State} (h : k ∉ st.map (·.1)) : putI st k v = st ++ [(k, v)] := by
  unfold putI
  rw [if_neg fun z => h (any_key.mp z)]
theorem mergeI_nodup : ∀ {st acc : State}, ((acc ++ st).map (·.1)).Nodup → mergeI acc st = acc ++ st
  | [], acc, _ => by simp [mergeI]
  | p :: st, acc, h => by
    have hp : p.1 ∉ acc.map (·.1) := fun z => by
      rw [List.map_append, List.map_cons] at h
      exact (List.nodup_append.mp h).2.2 p.1 z p.1 List.mem_cons_self rfl
    show mergeI (putI acc p.1 p.2) st = _
    rw [putI_new hp, mergeI_nodup (by simpa using h)]
    simp
theorem putI_keys {k v : Int} {st : State} (h : (st.map (·.1)).Nodup) : ((putI st k v).map (·.1)).Nodup ∧ ∀ q ∈ (putI st k v).map (·.1), q ∈ st.map (·.1) ∨ q = k := by
  unfold putI
  split
  · have e : (st.map fun p => if p.1 = k then (p.1, v) else p).map (·.1) = st.map (·.1) := by
      rw [List.map_map]
      refine List.map_congr_left fun p _ => ?_
      show (if p.1 = k then (p.1, v) else p).1 = p.1
      split <;> rfl
    rw [e]
    exact ⟨h, fun q hq => .inl hq⟩
  · rename_i hn
    rw [List.map_append]
    refine ⟨?_, fun q hq => ?_⟩
    · rw [List.nodup_append]
      refine ⟨h, by simp, fun a ha b hb e => hn (any_key.mpr ?_)⟩
      have : b = k := by simpa using hb
      rw [← this, ← e]; exact ha
    · rcases List.mem_append.mp hq with z | z
      · exact .inl z
      · exact .inr (by simpa using z)
theorem gone_put {l k x : Int} : ∀ {st : State}, (st.map (·.1)).Nodup → ((putI st k ((valI st k).getD 0 + x)).map (gl l)).sum = (st.map (gl l)).sum + if l < k then x else 0
  | [], _ => by
    show (([] ++ [(k, (0 : Int) + x)] : State).map (gl l)).sum = _
    simp [gl]
  | p :: st, h => by
    rw [List.map_cons] at h
    obtain ⟨h1, h2⟩ := List.nodup_cons.mp h
    have ih := gone_put (l := l) (k := k) (x := x) h2
    by_cases e : p.1 = k
    · have hv : valI (p :: st) k = some p.2 := by
        unfold valI
        rw [List.find?_cons]
        simp only [decide_eq_true e]
        rfl
      have hm : (st.map fun q => if q.1 = k then (q.1, (valI (p :: st) k).getD 0 + x) else q) = st := by
        conv => rhs; rw [← List.map_id st]
        refine List.map_congr_left fun q hq => ?_
        rw [if_neg fun z : q.1 = k => h1 (by rw [e, ← z]; exact List.mem_map_of_mem hq)]
        rfl
      unfold putI
      rw [if_pos (by simp [e]), List.map_cons, hm, if_pos e, hv]
      show ((gl l (p.1, p.2 + x)) :: st.map (gl l)).sum = _
      rw [List.sum_cons, List.map_cons, List.sum_cons]
      unfold gl
      show (if l < p.1 then p.2 + x else 0) + _ = (if l < p.1 then p.2 else 0) + _ + _
      rw [e]
      split <;> omega
    · have hv : valI (p :: st) k = valI st k := by
        unfold valI
        rw [List.find?_cons]
        simp only [decide_eq_false e]
      have hp : ∀ v, putI (p :: st) k v = p :: putI st k v := fun v => by
        unfold putI
        rw [List.any_cons, decide_eq_false e, Bool.false_or]
        split
        · rw [List.map_cons, if_neg e]
        · rfl
      rw [hv, hp, List.map_cons, List.sum_cons, ih, List.map_cons, List.sum_cons]
      omega
theorem putI_num {k v : Int} {st : State} (h : ∀ p ∈ st, 0 ≤ p.2) (hv : 0 ≤ v) : ∀ p ∈ putI st k v, 0 ≤ p.2 := fun p hp => by
  unfold putI at hp
  split at hp
  · obtain ⟨q, hq, e⟩ := List.mem_map.mp hp
    rw [← e]
    split
    · exact hv
    · exact h q hq
  · rcases List.mem_append.mp hp with z | z
    · exact h p z
    · rw [List.mem_singleton.mp z]; exact hv
theorem valI_num {k : Int} {st : State} (h : ∀ p ∈ st, 0 ≤ p.2) : 0 ≤ (valI st k).getD 0 := by
  unfold valI
  cases q : st.find? fun p => decide (p.1 = k) with
  | none => simp
  | some p => exact h p (List.mem_of_find?_eq_some q)
theorem gone_filter {l day : Int} (hl : day + 1 ≤ l) : ∀ {st : State}, (∀ p ∈ st, 0 ≤ p.2) → ((st.filter fun p => decide (day + 1 < p.1) && decide (0 < p.2)).map (gl l)).sum = (st.map (gl l)).sum
  | [], _ => rfl
  | p :: st, h => by
    have ih := gone_filter hl (st := st) fun q hq => h q (List.mem_cons_of_mem _ hq)
    have hp := h p List.mem_cons_self
    rw [List.filter_cons, List.map_cons, List.sum_cons]
    split
    · rw [List.map_cons, List.sum_cons, ih]
    · rename_i hn
      rw [ih]
      have : gl l p = 0 := by
        unfold gl
        split
        · rename_i hlt
          have h1 : day + 1 < p.1 := by omega
          have h2 : ¬ 0 < p.2 := fun z => hn (by simp [h1, z])
          omega
        · rfl
      omega
/-- a state stands for a past -/
structure RelS (c : Cal) (past : List Int) (st : State) : Prop where
  nd : (st.map (·.1)).Nodup
  num : ∀ p ∈ st, 1 ≤ p.2
  key : ∀ p ∈ st, (past.length : Int) + 1 < p.1 ∧ p.1 ≤ nDays c + 1
  gone : ∀ l : Int, (past.length : Int) + 1 ≤ l → l ≤ nDays c → gone st l = awayP c past l
theorem relS_nil (c : Cal) : RelS c [] [] := ⟨List.nodup_nil, (fun _ h => nomatch h), (fun _ h => nomatch h), fun l _ _ => rfl⟩
theorem back_le {c : Cal} {d : Int} : at1 (backs c) d ≤ nDays c + 1 := by
  unfold at1 backs
  rw [List.getD_eq_getElem?_getD, List.getElem?_map]
  cases c[(d - 1).toNat]? with
  | none => show (0 : Int) ≤ _; unfold nDays; omega
  | some p =>
    show back1 (nDays c) p.2 ≤ _
    unfold back1
    cases p.2 with
    | none => exact Int.le_refl _
    | some b => show (if nDays c + 1 < b then nDays c + 1 else b) ≤ _; split <;> omega
theorem relS_step {c : Cal} {past : List Int} {st : State} (R : RelS c past st) {x : Int} (hx : 0 ≤ x) : RelS c (past ++ [x]) (follower c st ((past.length : Int) + 1) x) := by
  have hm : mergeI [] st = st := mergeI_nodup (acc := []) (by simpa using R.nd)
  have hnum : ∀ p ∈ st, 0 ≤ p.2 := fun p hp => by have := R.num p hp; omega
  have hfs : followSet c st ((past.length : Int) + 1) x = (putI st (at1 (backs c) ((past.length : Int) + 1)) ((valI st (at1 (backs c) ((past.length : Int) + 1))).getD 0 + x)).filter fun p => decide ((past.length : Int) + 1 + 1 < p.1) && decide (0 < p.2) := by
    unfold followSet
    rw [hm]
  generalize hbk : at1 (backs c) ((past.length : Int) + 1) = bk at hfs
  have hbl : bk ≤ nDays c + 1 := by rw [← hbk]; exact back_le
  have hperm : (follower c st ((past.length : Int) + 1) x).Perm (followSet c st ((past.length : Int) + 1) x) := List.mergeSort_perm _ _
  have hkeys := putI_keys (k := bk) (v := (valI st bk).getD 0 + x) R.nd
  have hpn := putI_num (k := bk) (v := (valI st bk).getD 0 + x) hnum (by have := valI_num (k := bk) hnum; omega)
  have hlen : ((past ++ [x]).length : Int) = (past.length : Int) + 1 := by rw [List.length_append, List.length_singleton]; omega
  refine ⟨?_, fun p hp => ?_, fun p hp => ?_, fun l h1 h2 => ?_⟩
  · refine ((hperm.map _).nodup_iff).mpr ?_
    rw [hfs]
    exact ((List.filter_sublist).map _).nodup hkeys.1
  · have hp := hperm.mem_iff.mp hp
    rw [hfs] at hp
    have h := (List.mem_filter.mp hp).2
    simp only [Bool.and_eq_true, decide_eq_true_eq] at h
    omega
  · have hp := hperm.mem_iff.mp hp
    rw [hfs] at hp
    obtain ⟨h0, h⟩ := List.mem_filter.mp hp
    simp only [Bool.and_eq_true, decide_eq_true_eq] at h
    rw [hlen]
    refine ⟨by omega, ?_⟩
    rcases hkeys.2 p.1 (List.mem_map_of_mem h0) with z | z
    · obtain ⟨q, hq, e⟩ := List.mem_map.mp z
      have := (R.key q hq).2
      omega
    · omega
  · rw [hlen] at h1
    rw [gone_perm hperm, gone_eq, hfs, gone_filter h1 hpn, gone_put R.nd, ← gone_eq, R.gone l (by omega) h2, awayP_snoc, hbk]
/-- what the days ahead allow -/
structure Fut (c : Cal) (past : List Int) : Prop where
  nn : NonNeg past
  len : (past.length : Int) ≤ nDays c
  aw : ∀ l : Int, (past.length : Int) + 1 ≤ l → l ≤ nDays c → awayP c past l ≤ at1 (owned c) l
theorem fut_nil {c : Cal} (ok : CalA c) : Fut c [] := ⟨(fun _ h => nomatch h), by unfold nDays; simp, fun l _ _ => by rw [awayP_nil]; exact ok.own l⟩
theorem fut_room {c : Cal} (ok : CalA c) {past : List Int} (F : Fut c past) (hl : (past.length : Int) < nDays c) : 0 ≤ roomP c past ∧ roomP c past ≤ at1 (owned c) ((past.length : Int) + 1) := by
  have R := roomP_is ok F.nn hl
  constructor
  · obtain ⟨j, h1, h2, _, e⟩ := R.ex
    have := F.aw j h1 h2
    omega
  · have := R.le ((past.length : Int) + 1) (Int.le_refl _) (by omega) (ok.back _ (by omega) (by omega))
    have h := awayP_nonneg (c := c) (l := (past.length : Int) + 1) F.nn
    omega
theorem fut_step {c : Cal} (ok : CalA c) {past : List Int} (F : Fut c past) (hl : (past.length : Int) < nDays c) {x : Int} (h0 : 0 ≤ x) (h1 : x ≤ roomP c past) : Fut c (past ++ [x]) := by
  have R := roomP_is ok F.nn hl
  have hlen : ((past ++ [x]).length : Int) = (past.length : Int) + 1 := by rw [List.length_append, List.length_singleton]; omega
  refine ⟨F.nn.snoc h0, by omega, fun l k1 k2 => ?_⟩
  rw [hlen] at k1
  rw [awayP_snoc]
  have := F.aw l (by omega) k2
  split
  · rename_i hb
    have := R.le l (by omega) k2 hb
    omega
  · omega
theorem room_eq {c : Cal} {past : List Int} {st : State} (R : RelS c past st) (hl : (past.length : Int) < nDays c) : room c st ((past.length : Int) + 1) = roomP c past := by
  unfold room roomP spare spareP
  congr 1
  refine List.map_congr_left fun l hm => ?_
  have := lowDays_mem (by omega) (List.mem_filter.mp hm).1
  rw [R.gone l this.1 this.2]
theorem followers_eq {c : Cal} {past : List Int} {st : State} (R : RelS c past st) (hl : (past.length : Int) < nDays c) : followers c st ((past.length : Int) + 1) = (upN (roomP c past + 1)).map (follower c st ((past.length : Int) + 1)) := by
  unfold followers
  rw [room_eq R hl, upTo0]
  congr 1
theorem calA {c : Cal} (ok : CalOk c) : CalA c := ⟨fun d => (owned_at ok).1, fun d h1 h2 => back_gt ok h1 h2⟩
/-- the states after d days stand for pasts -/
theorem sts_past {c : Cal} (ok : CalOk c) : ∀ {d : Nat} {s : State}, d ≤ c.length → s ∈ sts c d → ∃ past : List Int, past.length = d ∧ RelS c past s ∧ Fut c past
  | 0, s, _, h => by
    rw [List.mem_singleton.mp h]
    exact ⟨[], rfl, relS_nil c, fut_nil (calA ok)⟩
  | d + 1, s, hd, h => by
    rcases mem_addS.mp h with z | z
    · cases z
    · obtain ⟨t, h1, h2⟩ := List.mem_flatMap.mp z
      obtain ⟨past, hp, R, F⟩ := sts_past ok (by omega) h1
      have hl : (past.length : Int) < nDays c := by unfold nDays; omega
      rw [← hp, followers_eq R hl] at h2
      obtain ⟨x, hx, e⟩ := List.mem_map.mp h2
      have hx := upN_mem.mp hx
      exact ⟨past ++ [x], by rw [List.length_append, hp]; rfl, by rw [← e]; exact relS_step R hx.1, fut_step (calA ok) F hl hx.1 (by omega)⟩
theorem len_le_sum : ∀ {st : State}, (∀ p ∈ st, 1 ≤ p.2) → (st.length : Int) ≤ (st.map (·.2)).sum ∧ ∀ p ∈ st, p.2 ≤ (st.map (·.2)).sum
  | [], _ => ⟨by simp, fun _ h => nomatch h⟩
  | p :: st, h => by
    obtain ⟨h1, h2⟩ := len_le_sum (st := st) fun q hq => h q (List.mem_cons_of_mem _ hq)
    have hp := h p List.mem_cons_self
    rw [List.map_cons, List.sum_cons, List.length_cons]
    refine ⟨by omega, fun q hq => ?_⟩
    rcases List.mem_cons.mp hq with e | e
    · rw [e]; omega
    · have := h2 q e; omega
/-- bounds of a state, before the last day is over -/
theorem relS_bd {c : Cal} (ok : CalOk c) {past : List Int} {st : State} (R : RelS c past st) (F : Fut c past) : (st.length : Int) ≤ 12 ∧ ∀ p ∈ st, 1 ≤ p.2 ∧ p.2 ≤ 12 := by
  by_cases hl : (past.length : Int) < nDays c
  · have h := F.aw ((past.length : Int) + 1) (Int.le_refl _) (by omega)
    have h12 := (owned_at ok (d := (past.length : Int) + 1)).2
    have hg := R.gone ((past.length : Int) + 1) (Int.le_refl _) (by omega)
    rw [gone_eq] at hg
    have e : st.map (gl ((past.length : Int) + 1)) = st.map (·.2) := List.map_congr_left fun p hp => by
      unfold gl
      exact if_pos (R.key p hp).1
    rw [e] at hg
    obtain ⟨h1, h2⟩ := len_le_sum R.num
    refine ⟨by omega, fun p hp => ⟨R.num p hp, ?_⟩⟩
    have := h2 p hp
    omega
  · have : st = [] := by
      cases st with
      | nil => rfl
      | cons p l =>
        have := R.key p List.mem_cons_self
        have := F.len
        omega
    rw [this]
    exact ⟨by decide, fun _ h => nomatch h⟩
/-- a table, if the states are few -/
theorem tabOk {c : Cal} (ok : CalOk c) (hs : ∀ d, d ≤ c.length → (sts c d).length ≤ 300) : TabOk c where
  ok := ok
  size := hs
  bd := fun d hd s h => by
    obtain ⟨past, hp, R, F⟩ := sts_past ok hd h
    obtain ⟨h1, h2⟩ := relS_bd ok R F
    exact ⟨by omega, fun p hp => by have := h2 p hp; omega⟩
  rm := fun d hd s h => by
    obtain ⟨past, hp, R, F⟩ := sts_past ok (by omega) h
    have hl : (past.length : Int) < nDays c := by unfold nDays; omega
    have := (fut_room (calA ok) F hl).1
    rw [← room_eq R hl, hp] at this
    exact this
  fin := by
    have hall : ∀ s ∈ sts c c.length, s = [] := fun s h => by
      obtain ⟨past, hp, R, F⟩ := sts_past ok (Nat.le_refl _) h
      cases s with
      | nil => rfl
      | cons p l =>
        have := R.key p List.mem_cons_self
        unfold nDays at this
        omega
    have hne : ∀ d, d ≤ c.length → sts c d ≠ [] := fun d => by
      induction d with
      | zero => intro _; simp [sts]
      | succ d ih =>
        intro hd
        have h := ih (by omega)
        obtain ⟨s, hs⟩ : ∃ s, s ∈ sts c d := ⟨_, List.head_mem h⟩
        obtain ⟨past, hp, R, F⟩ := sts_past ok (by omega) hs
        have hl : (past.length : Int) < nDays c := by unfold nDays; omega
        have h0 := (fut_room (calA ok) F hl).1
        have hm : follower c s ((past.length : Int) + 1) 0 ∈ followers c s ((d : Nat) + 1) := by
          rw [← hp, followers_eq R hl]
          exact List.mem_map_of_mem (upN_mem.mpr ⟨by omega, by omega⟩)
        exact List.ne_nil_of_mem (mem_sts hs hm)
    have hnd := sts_nodup c c.length
    have hn := hne c.length (Nat.le_refl _)
    generalize sts c c.length = L at hall hnd hn
    match L, hn with
    | [a], _ => rw [hall a (by simp)]
    | a :: b :: l, _ =>
      have h1 := hall a (by simp)
      have h2 := hall b (by simp)
      rw [h1, h2] at hnd
      simp at hnd
end BR

set_option Elab.async false
set_option linter.all false
set_option maxRecDepth 100000
set_option maxHeartbeats 1000000
/-! A3: the numbers of levels, by pasts. -/
namespace BR
open PD
abbrev prA (ps : List Price) (past : List Int) : Price := atP ps ((past.length : Int) + 1)
/-- the greatest number of levels; 0 if the budget is negative -/
def mz (c : Cal) (ps : List Price) : Nat → List Int → Int → Int
  | 0, _, b => if b < 0 then 0 else 1
  | k + 1, past, b => if b < 0 then 0 else maxL ((upN (roomP c past + 1)).map fun J => ((upN (J + 1)).map fun j => mz c ps k (past ++ [j]) (b - paidI (prA ps past) J - (prA ps past).2.2 * j)).sum)
def cntP (c : Cal) : Nat → List Int → Int
  | 0, _ => 1
  | k + 1, past => ((upN (roomP c past + 1)).map fun j => cntP c k (past ++ [j])).sum
theorem mz_neg {c : Cal} {ps : List Price} {k : Nat} {past : List Int} {b : Int} (h : b < 0) : mz c ps k past b = 0 := by
  cases k with
  | zero => rw [mz, if_pos h]
  | succ k => rw [mz, if_pos h]
theorem mz_zero {c : Cal} {ps : List Price} {past : List Int} {b : Int} (h : 0 ≤ b) : mz c ps 0 past b = 1 := by rw [mz, if_neg (by omega)]
theorem mz_succ {c : Cal} {ps : List Price} {k : Nat} {past : List Int} {b : Int} (h : 0 ≤ b) : mz c ps (k + 1) past b = maxL ((upN (roomP c past + 1)).map fun J => ((upN (J + 1)).map fun j => mz c ps k (past ++ [j]) (b - paidI (prA ps past) J - (prA ps past).2.2 * j)).sum) := by rw [mz, if_neg (by omega)]
theorem upN_map_ne {α : Type} {n : Int} (h : 0 ≤ n) (f : Int → α) : (upN (n + 1)).map f ≠ [] := by
  rw [upN_succ h]; simp
theorem sum_filter {α β : Type} (g : α → β) (p : β → Bool) (f : β → Int) : ∀ l : List α, (((l.map g).filter p).map f).sum = (l.map fun x => if p (g x) = true then f (g x) else 0).sum
  | [] => rfl
  | a :: l => by
    rw [List.map_cons, List.filter_cons, List.map_cons, List.sum_cons, ← sum_filter g p f l]
    split
    · rw [List.map_cons, List.sum_cons]
    · omega
theorem getD_upN {α : Type} {n : Int} {f : Int → α} {j : Int} {z : α} (h0 : 0 ≤ j) (h1 : j < n) : ((upN n).map f).getD j.toNat z = f j := by
  unfold upN
  rw [List.getD_eq_getElem?_getD, List.getElem?_map, List.getElem?_map, List.getElem?_range (by omega)]
  show f ((j.toNat : Nat) : Int) = f j
  rw [Int.toNat_of_nonneg h0]
theorem snoc_len (past : List Int) (x : Int) : ((past ++ [x]).length : Int) = (past.length : Int) + 1 := by rw [List.length_append, List.length_singleton]; omega
theorem mostK_eq {c : Cal} (ok : CalOk c) {ps : List Price} : ∀ {k : Nat} {past : List Int} {e : Ent}, RelS c past e.2.1 → Fut c past → (past.length : Int) + k = nDays c → e.1 = (past.length : Int) + 1 → 0 ≤ e.2.2 → mostK c ps k e = mz c ps k past e.2.2
  | 0, past, e, R, F, hk, he, hb => by rw [mz_zero hb]; rfl
  | k + 1, past, e, R, F, hk, he, hb => by
    have hl : (past.length : Int) < nDays c := by omega
    have hr := (fut_room (calA ok) F hl).1
    rw [mz_succ hb]
    show maxL ((outE c ps e).map fun s => (s.map (mostK c ps k)).sum) = _
    congr 1
    unfold outE branchesL
    rw [he, followers_eq R hl, List.length_map, upN_len, upTo0, List.map_map, Int.toNat_of_nonneg (by omega)]
    refine List.map_congr_left fun J hJ => ?_
    have hJ := upN_mem.mp hJ
    show ((branchU ps _ _ _ J).map (mostK c ps k)).sum = _
    unfold branchU
    rw [sum_filter, upTo0, Int.toNat_of_nonneg (by omega)]
    congr 1
    refine List.map_congr_left fun j hj => ?_
    have hj := upN_mem.mp hj
    rw [getD_upN hj.1 (by omega)]
    by_cases q : 0 ≤ e.2.2 - paidI (prA ps past) J - (prA ps past).2.2 * j
    · rw [if_pos (decide_eq_true q)]
      exact mostK_eq ok (k := k) (past := past ++ [j]) (e := ((past.length : Int) + 1 + 1, follower c e.2.1 ((past.length : Int) + 1) j, e.2.2 - paidI (prA ps past) J - (prA ps past).2.2 * j)) (relS_step R hj.1) (fut_step (calA ok) F hl hj.1 (by omega)) (by rw [snoc_len]; omega) (by rw [snoc_len]) q
    · rw [if_neg (by rw [decide_eq_true_eq]; exact q), mz_neg (by omega)]
theorem cnt_eq {c : Cal} (ok : CalOk c) : ∀ {k : Nat} {past : List Int} {s : State}, RelS c past s → Fut c past → (past.length : Int) + k = nDays c → cnt c k s = cntP c k past
  | 0, past, s, R, F, hk => rfl
  | k + 1, past, s, R, F, hk => by
    have hl : (past.length : Int) < nDays c := by omega
    have hr := (fut_room (calA ok) F hl).1
    show ((followers c s (nDays c - (k : Nat))).map (cnt c k)).sum = ((upN (roomP c past + 1)).map fun j => cntP c k (past ++ [j])).sum
    rw [show nDays c - (k : Nat) = (past.length : Int) + 1 by omega, followers_eq R hl, List.map_map]
    congr 1
    refine List.map_congr_left fun j hj => ?_
    have hj := upN_mem.mp hj
    exact cnt_eq ok (relS_step R hj.1) (fut_step (calA ok) F hl hj.1 (by omega)) (by rw [snoc_len]; omega)
theorem levW_eq {c : Cal} (ok : CalOk c) {ps : List Price} {b : Int} (hb : 0 ≤ b) : levW c ps b = mz c ps c.length [] b :=
  mostK_eq ok (e := (1, [], b)) (relS_nil c) (fut_nil (calA ok)) (by unfold nDays; simp) rfl hb
/-! ### what holds of them -/
theorem mz_nonneg {c : Cal} (ok : CalA c) {ps : List Price} : ∀ {k : Nat} {past : List Int} {b : Int}, Fut c past → (past.length : Int) + k = nDays c → 0 ≤ mz c ps k past b
  | 0, past, b, F, hk => by rw [mz]; split <;> omega
  | k + 1, past, b, F, hk => by
    by_cases hb : b < 0
    · rw [mz_neg hb]; omega
    · have hl : (past.length : Int) < nDays c := by omega
      have hr := (fut_room ok F hl).1
      rw [mz_succ (by omega)]
      obtain ⟨J, hJ, e⟩ := List.mem_map.mp (maxL_mem (upN_map_ne hr fun J => ((upN (J + 1)).map fun j => mz c ps k (past ++ [j]) (b - paidI (prA ps past) J - (prA ps past).2.2 * j)).sum))
      rw [← e]
      have hJ := upN_mem.mp hJ
      exact sum_nonneg fun j hj => by
        have hj := upN_mem.mp hj
        exact mz_nonneg ok (fut_step ok F hl hj.1 (by omega)) (by rw [snoc_len]; omega)
theorem cntP_pos {c : Cal} (ok : CalA c) : ∀ {k : Nat} {past : List Int}, Fut c past → (past.length : Int) + k = nDays c → 1 ≤ cntP c k past
  | 0, past, F, hk => Int.le_refl _
  | k + 1, past, F, hk => by
    have hl : (past.length : Int) < nDays c := by omega
    have hr := (fut_room ok F hl).1
    have h0 := cntP_pos ok (k := k) (fut_step ok F hl (x := 0) (by omega) hr) (by rw [snoc_len]; omega)
    have := sum_up_le (f := fun j => cntP c k (past ++ [j])) (g := fun j => cntP c k (past ++ [j])) (m := 1) (n := roomP c past + 1) (by omega) (fun _ _ _ => Int.le_refl _) fun x h1 h2 => by
      have := cntP_pos ok (k := k) (fut_step ok F hl (x := x) h1 (by omega)) (by rw [snoc_len]; omega)
      omega
    show 1 ≤ ((upN (roomP c past + 1)).map fun j => cntP c k (past ++ [j])).sum
    have e : ((upN 1).map fun j => cntP c k (past ++ [j])).sum = cntP c k (past ++ [0]) := by
      show ([((0 : Nat) : Int)].map _).sum = _
      simp
    omega
/-- never more than all rows -/
theorem mz_le_cnt {c : Cal} (ok : CalA c) {ps : List Price} : ∀ {k : Nat} {past : List Int} {b : Int}, Fut c past → (past.length : Int) + k = nDays c → mz c ps k past b ≤ cntP c k past
  | 0, past, b, F, hk => by
    rw [mz]
    show _ ≤ (1 : Int)
    split <;> omega
  | k + 1, past, b, F, hk => by
    have hpos := cntP_pos ok F hk
    by_cases hb : b < 0
    · rw [mz_neg hb]; omega
    · have hl : (past.length : Int) < nDays c := by omega
      have hr := (fut_room ok F hl).1
      rw [mz_succ (by omega)]
      refine maxL_le (upN_map_ne hr _) fun y hy => ?_
      obtain ⟨J, hJ, e⟩ := List.mem_map.mp hy
      rw [← e]
      have hJ := upN_mem.mp hJ
      exact sum_up_le (by omega) (fun x h1 h2 => mz_le_cnt ok (fut_step ok F hl h1 (by omega)) (by rw [snoc_len]; omega)) fun x h1 h2 => by
        have := cntP_pos ok (k := k) (fut_step ok F hl (x := x) h1 (by omega)) (by rw [snoc_len]; omega)
        omega
theorem paid_mono {p p' : Price} (h : LeP p p') {J : Int} (hJ : 0 ≤ J) : paidI p J ≤ paidI p' J := by
  unfold paidI
  have h2 := Int.mul_le_mul_of_nonneg_right h.2.1 hJ
  split
  · have := h.1; omega
  · omega
/-- a greater budget, smaller prices, more room -/
theorem mz_mono {c c' : Cal} (ok : CalA c) (ok' : CalA c') {ps ps' : List Price} (hn : nDays c' = nDays c) (hroom : ∀ past, Fut c past → (past.length : Int) < nDays c → roomP c past ≤ roomP c' past) (hfut : ∀ past, Fut c past → Fut c' past)
    (hp : ∀ past : List Int, (past.length : Int) < nDays c → LeP (prA ps' past) (prA ps past)) : ∀ {k : Nat} {past : List Int} {b b' : Int}, Fut c past → (past.length : Int) + k = nDays c → b ≤ b' → mz c ps k past b ≤ mz c' ps' k past b'
  | 0, past, b, b', F, hk, hb => by
    rw [mz, mz]
    split <;> split <;> omega
  | k + 1, past, b, b', F, hk, hb => by
    by_cases h0 : b < 0
    · rw [mz_neg h0]
      exact mz_nonneg ok' (hfut past F) (by omega)
    · have hl : (past.length : Int) < nDays c := by omega
      have hr := (fut_room ok F hl).1
      have hr2 := hroom past F hl
      rw [mz_succ (by omega), mz_succ (by omega)]
      refine maxL_mono (upN_map_ne hr _) fun y hy => ?_
      obtain ⟨J, hJ, e⟩ := List.mem_map.mp hy
      have hJ := upN_mem.mp hJ
      refine ⟨_, List.mem_map_of_mem (upN_mem.mpr ⟨hJ.1, by omega⟩), ?_⟩
      rw [← e]
      refine sum_le_sum fun j hj => ?_
      have hj := upN_mem.mp hj
      refine mz_mono ok ok' hn hroom hfut hp (fut_step ok F hl hj.1 (by omega)) (by rw [snoc_len]; omega) ?_
      have h1 := hp past hl
      have h2 := paid_mono h1 hJ.1
      have h3 := Int.mul_le_mul_of_nonneg_right h1.2.2 hj.1
      omega
/-- all prices and the budget multiplied -/
theorem mz_scale {c : Cal} {ps : List Price} {f r : Int} (h0 : 0 ≤ r) (h1 : r < f) : ∀ {k : Nat} {past : List Int} {b : Int}, (past.length : Int) + k = nDays c → nDays c = ps.length → mz c (scaleP f ps) k past (f * b + r) = mz c ps k past b := by
  have hneg : ∀ b : Int, f * b + r < 0 ↔ b < 0 := fun b => by
    constructor
    · intro h
      rcases Int.lt_or_le b 0 with q | q
      · exact q
      · have := Int.mul_nonneg (show 0 ≤ f by omega) q
        omega
    · intro h
      have : f * b ≤ f * (-1) := Int.mul_le_mul_of_nonneg_left (by omega) (by omega)
      omega
  intro k
  induction k with
  | zero =>
    intro past b _ _
    rw [mz, mz]
    simp only [hneg]
  | succ k ih =>
    intro past b hk hn
    by_cases hb : b < 0
    · rw [mz_neg hb, mz_neg ((hneg b).mpr hb)]
    · have hb' : ¬ f * b + r < 0 := fun z => hb ((hneg b).mp z)
      rw [mz_succ (by omega), mz_succ (by omega)]
      congr 1
      refine List.map_congr_left fun J hJ => ?_
      congr 1
      refine List.map_congr_left fun j hj => ?_
      have hat : prA (scaleP f ps) past = (f * (prA ps past).1, f * (prA ps past).2.1, f * (prA ps past).2.2) := by
        unfold prA atP scaleP
        have hl : ((past.length : Int) + 1 - 1).toNat < ps.length := by omega
        rw [List.getD_eq_getElem?_getD, List.getD_eq_getElem?_getD, List.getElem?_map, List.getElem?_eq_getElem hl]
        rfl
      rw [hat]
      rw [← ih (past := past ++ [j]) (by rw [snoc_len]; omega) hn]
      congr 1
      unfold paidI
      rw [Int.mul_sub, Int.mul_sub, Int.mul_add]
      show f * b + r - (f * (prA ps past).1 * _ + f * (prA ps past).2.1 * J) - f * (prA ps past).2.2 * j = _
      rw [Int.mul_assoc, Int.mul_assoc, Int.mul_assoc]
      omega
end BR

set_option Elab.async false
set_option linter.all false
set_option maxRecDepth 100000
set_option maxHeartbeats 1000000
/-! A4: the rows that the law makes; prices for breaks alone. -/
namespace BR
open PD
theorem back_after {c : Cal} {i : Nat} (hi : i < c.length) {day : Int} (hd : day ≤ nDays c) : (backAfter (c.getD i (0, none)).2 day = true) ↔ day < at1 (backs c) ((i : Nat) + 1) := by
  unfold at1 backs
  rw [List.getD_eq_getElem?_getD, List.getD_eq_getElem?_getD, List.getElem?_map, show ((i : Nat) + 1 - 1 : Int).toNat = i by omega, List.getElem?_eq_getElem hi]
  show (backAfter (c[i]).2 day = true) ↔ day < back1 (nDays c) (c[i]).2
  unfold backAfter back1
  cases (c[i]).2 with
  | none => simp; omega
  | some b =>
    simp only [decide_eq_true_eq]
    split <;> omega
theorem hereL_eq {c : Cal} {nums : List Int} (hn : nums.length ≤ c.length) {day : Int} (h1 : 1 ≤ day) (hd : day ≤ nDays c) : hereL c nums day = (if day ≤ (nums.length : Int) then nums.getD (day - 1).toNat 0 else 0) + awayP c (nums.take (day - 1).toNat) day := by
  unfold hereL awayL awayP
  congr 2
  apply List.ext_getElem?
  intro i
  rw [List.getElem?_mapIdx, List.getElem?_mapIdx]
  cases q : (nums.take (day - 1).toNat)[i]? with
  | none => rfl
  | some x =>
    have hi : i < c.length := by
      have := (List.getElem?_eq_some_iff.mp q).1
      rw [List.length_take] at this
      omega
    show some (x * (if backAfter (c.getD i (0, none)).2 day = true then 1 else 0)) = some (if day < at1 (backs c) ((i : Nat) + 1) then x else 0)
    congr 1
    have hb := back_after hi hd
    by_cases z : day < at1 (backs c) ((i : Nat) + 1)
    · rw [if_pos z, hb.mpr z]; simp
    · rw [if_neg z]
      cases w : backAfter (c.getD i (0, none)).2 day with
      | true => exact absurd (hb.mp w) z
      | false => simp
/-- allowed so far -/
def Good (c : Cal) (past : List Int) : Prop := ∀ day : Int, 1 ≤ day → day ≤ nDays c → hereL c past day ≤ at1 (owned c) day
theorem good_iff {c : Cal} {past : List Int} : allowedL c past = true ↔ Good c past := by
  unfold allowedL Good
  rw [List.all_eq_true]
  constructor
  · intro h day h1 h2
    have := h day (upTo_mem'.mpr ⟨h1, by unfold nDays at h2; omega⟩)
    exact of_decide_eq_true this
  · intro h day hd
    have hd := upTo_mem'.mp hd
    exact decide_eq_true (h day hd.1 (by unfold nDays; omega))
theorem here_tail {c : Cal} {past : List Int} (hn : past.length ≤ c.length) {day : Int} (h1 : (past.length : Int) + 1 ≤ day) (h2 : day ≤ nDays c) : hereL c past day = awayP c past day := by
  rw [hereL_eq hn (by omega) h2, if_neg (by omega), List.take_of_length_le (by omega)]
  omega
theorem good_fut {c : Cal} {past : List Int} (nn : NonNeg past) (hn : past.length ≤ c.length) (g : Good c past) : Fut c past := ⟨nn, by unfold nDays; omega, fun l h1 h2 => by
  have := g l (by omega) h2
  rw [here_tail hn h1 h2] at this
  exact this⟩
theorem good_snoc {c : Cal} (ok : CalA c) {past : List Int} (nn : NonNeg past) (hn : past.length < c.length) (g : Good c past) {x : Int} (hx : 0 ≤ x) : Good c (past ++ [x]) ↔ x ≤ roomP c past := by
  have hl : (past.length : Int) < nDays c := by unfold nDays; omega
  have R := roomP_is ok nn hl
  have F := good_fut nn (by omega) g
  have hls : (past ++ [x]).length = past.length + 1 := by rw [List.length_append]; rfl
  have e1 : ∀ day : Int, 1 ≤ day → day ≤ past.length → hereL c (past ++ [x]) day = hereL c past day := fun day h1 h2 => by
    rw [hereL_eq (by omega) h1 (by omega), hereL_eq (by omega) h1 (by omega), if_pos (by omega), if_pos h2, List.getD_eq_getElem?_getD, List.getD_eq_getElem?_getD, List.getElem?_append_left (by omega), List.take_append_of_le_length (by omega)]
  have e2 : hereL c (past ++ [x]) ((past.length : Int) + 1) = x + awayP c past ((past.length : Int) + 1) := by
    rw [hereL_eq (by omega) (by omega) (by omega), if_pos (by omega), List.getD_eq_getElem?_getD, show ((past.length : Int) + 1 - 1).toNat = past.length by omega, List.getElem?_append_right (Nat.le_refl _), Nat.sub_self, List.take_left]
    rfl
  have e3 : ∀ day : Int, (past.length : Int) + 1 < day → day ≤ nDays c → hereL c (past ++ [x]) day = awayP c past day + if day < at1 (backs c) ((past.length : Int) + 1) then x else 0 := fun day h1 h2 => by
    rw [here_tail (by omega) (by omega) h2, awayP_snoc]
  constructor
  · intro h
    obtain ⟨j, h1, h2, h3, e⟩ := R.ex
    have hj := h j (by omega) h2
    by_cases z : j = (past.length : Int) + 1
    · rw [z, e2, ← z] at hj; omega
    · rw [e3 j (by omega) h2, if_pos h3] at hj; omega
  · intro h day h1 h2
    by_cases z1 : day ≤ past.length
    · rw [e1 day h1 z1]; exact g day h1 h2
    · by_cases z2 : day = (past.length : Int) + 1
      · rw [z2, e2]
        have := R.le ((past.length : Int) + 1) (Int.le_refl _) (by omega) (ok.back _ (by omega) (by omega))
        omega
      · rw [e3 day (by omega) h2]
        split
        · rename_i hb
          have := R.le day (by omega) h2 hb
          omega
        · have := F.aw day (by omega) h2
          omega
theorem downTo_succ {n : Nat} : downTo ((n + 1 : Nat) : Int) = ((n + 1 : Nat) : Int) :: downTo (n : Nat) := by
  unfold downTo
  rw [show (((n + 1 : Nat) : Int) + 1).toNat = (n + 1) + 1 by omega, show ((n : Int) + 1).toNat = n + 1 by omega, List.range_succ_eq_map, List.map_cons, List.map_map]
  have h0 : ((n + 1 : Nat) : Int) - ((0 : Nat) : Int) = ((n + 1 : Nat) : Int) := by omega
  rw [h0]
  refine congrArg _ (List.map_congr_left fun i _ => ?_)
  show ((n + 1 : Nat) : Int) - ((i + 1 : Nat) : Int) = (n : Int) - (i : Int)
  omega
theorem sum_downTo (f : Int → Int) : ∀ n : Nat, ((downTo (n : Nat)).map f).sum = ((upN ((n : Nat) + 1)).map f).sum
  | 0 => by simp [downTo, upN]
  | n + 1 => by
    rw [downTo_succ, List.map_cons, List.sum_cons, sum_downTo f n, show ((n + 1 : Nat) : Int) + 1 = ((n : Int) + 1) + 1 by omega, upN_succ (n := (n : Int) + 1) (by omega), List.map_append, List.sum_append]
    simp
    omega
theorem downTo_mem {n x : Int} (h : x ∈ downTo n) : 0 ≤ x ∧ x ≤ n := by
  unfold downTo at h
  obtain ⟨i, hi, e⟩ := List.mem_map.mp h
  have := List.mem_range.mp hi
  omega
theorem filter_downTo {p : Int → Bool} {m : Nat} : ∀ {o : Nat}, (∀ x, 0 ≤ x → (p x = true ↔ x ≤ (m : Nat))) → m ≤ o → (downTo (o : Nat)).filter p = downTo (m : Nat)
  | o, hp, hm => by
    by_cases e : m = o
    · subst e
      exact List.filter_eq_self.mpr fun x hx => (hp x (downTo_mem hx).1).mpr (downTo_mem hx).2
    · obtain ⟨k, rfl⟩ : ∃ k, o = k + 1 := ⟨o - 1, by omega⟩
      rw [downTo_succ, List.filter_cons, if_neg fun z => by
        have := (hp _ (by omega)).mp z
        omega]
      exact filter_downTo hp (by omega)
/-- one more day, all rows: the numbers from 0 to the room -/
theorem sum_stepRows {c : Cal} (ok : CalA c) {past : List Int} (nn : NonNeg past) (hn : past.length < c.length) (g : Good c past) (f : List Int → Int) :
    ((stepRows c (at1 (owned c) ((past.length : Int) + 1)) past).map f).sum = ((upN (roomP c past + 1)).map fun x => f (past ++ [x])).sum := by
  have hl : (past.length : Int) < nDays c := by unfold nDays; omega
  have F := good_fut nn (by omega) g
  obtain ⟨h0, h1⟩ := fut_room ok F hl
  unfold stepRows
  have hp : ∀ x : Int, 0 ≤ x → (allowedL c (past ++ [x]) = true ↔ x ≤ ((roomP c past).toNat : Nat)) := fun x hx => by
    rw [good_iff, good_snoc ok nn hn g hx, Int.toNat_of_nonneg h0]
  have e := filter_downTo (p := fun x => allowedL c (past ++ [x])) (m := (roomP c past).toNat) (o := (at1 (owned c) ((past.length : Int) + 1)).toNat) hp (by omega)
  rw [Int.toNat_of_nonneg (by omega), Int.toNat_of_nonneg h0] at e
  rw [e, List.map_map]
  have := sum_downTo (fun x => f (past ++ [x])) (roomP c past).toNat
  rw [Int.toNat_of_nonneg h0] at this
  exact this
theorem rowsN_good {c : Cal} (ok : CalA c) : ∀ {i : Nat} {past : List Int}, i ≤ c.length → past ∈ rowsN c i → NonNeg past ∧ Good c past
  | 0, past, _, h => by
    rw [List.mem_singleton.mp h]
    refine ⟨(fun _ h => nomatch h), fun day h1 h2 => ?_⟩
    rw [here_tail (Nat.zero_le _) (by simpa using h1) h2, awayP_nil]
    exact ok.own day
  | i + 1, past, hi, h => by
    obtain ⟨p, hp, h2⟩ := List.mem_flatMap.mp h
    obtain ⟨nn, g⟩ := rowsN_good ok (by omega) hp
    unfold stepRows at h2
    obtain ⟨x, hx, e⟩ := List.mem_map.mp h2
    obtain ⟨hx1, hx2⟩ := List.mem_filter.mp hx
    have hx0 := (downTo_mem hx1).1
    rw [← e]
    exact ⟨nn.snoc hx0, good_iff.mp hx2⟩
theorem sum_flatMap {α β : Type} (f : β → Int) (g : α → List β) : ∀ l : List α, ((l.flatMap g).map f).sum = (l.map fun a => ((g a).map f).sum).sum
  | [] => rfl
  | a :: l => by rw [List.flatMap_cons, List.map_append, List.sum_append, List.map_cons, List.sum_cons, sum_flatMap f g l]
/-- what is told of all ways on, day by day -/
theorem rows_tell {c : Cal} (ok : CalA c) (G : Nat → List Int → Int) (hG : ∀ k past, (past.length : Int) + (k + 1 : Nat) = nDays c → Fut c past → G (k + 1) past = ((upN (roomP c past + 1)).map fun x => G k (past ++ [x])).sum) : ∀ i : Nat, i ≤ c.length → ((rowsN c i).map (G (c.length - i))).sum = G c.length []
  | 0, _ => by simp [rowsN]
  | i + 1, hi => by
    rw [← rows_tell ok G hG i (by omega)]
    show (((rowsN c i).flatMap _).map _).sum = _
    rw [sum_flatMap]
    congr 1
    refine List.map_congr_left fun past hp => ?_
    obtain ⟨nn, g⟩ := rowsN_good ok (by omega) hp
    have hlen := rowsN_len hp
    have e := sum_stepRows ok nn (by omega) g (G (c.length - (i + 1)))
    rw [hlen] at e
    rw [e, show c.length - i = (c.length - (i + 1)) + 1 by omega, hG _ past (by unfold nDays; omega) (good_fut nn (by omega) g)]
theorem rows_count {c : Cal} (ok : CalA c) : ((rowsN c c.length).length : Int) = cntP c c.length [] := by
  have := rows_tell ok (cntP c) (fun k past _ _ => rfl) c.length (Nat.le_refl _)
  rw [Nat.sub_self] at this
  rw [← this]
  have : ∀ l : List (List Int), (l.map (cntP c 0)).sum = (l.length : Int) := fun l => by
    induction l with
    | nil => rfl
    | cons a l ih => rw [List.map_cons, List.sum_cons, ih, List.length_cons]; show (1 : Int) + _ = _; omega
  rw [this]
theorem rows_bd {c : Cal} (ok : CalA c) (h12 : ∀ d, at1 (owned c) d ≤ 12) : ∀ {i : Nat} {row : List Int}, row ∈ rowsN c i → ∀ x ∈ row, 0 ≤ x ∧ x ≤ 12
  | 0, row, h, x, hx => by rw [List.mem_singleton.mp h] at hx; cases hx
  | i + 1, row, h, x, hx => by
    obtain ⟨p, hp, h2⟩ := List.mem_flatMap.mp h
    unfold stepRows at h2
    obtain ⟨y, hy, e⟩ := List.mem_map.mp h2
    have hy := downTo_mem (List.mem_filter.mp hy).1
    have := h12 ((i : Nat) + 1)
    rw [← e] at hx
    rcases List.mem_append.mp hx with z | z
    · exact rows_bd ok h12 hp x z
    · rw [List.mem_singleton.mp z]; omega
/-! ### prices for breaks alone -/
theorem dear_step {c : Cal} (ok : CalA c) {q : List Int} (hq : q.length = c.length) (hq0 : ∀ x ∈ q, 0 ≤ x) {k : Nat} {past : List Int} {b : Int} (F : Fut c past) (hk : (past.length : Int) + (k + 1 : Nat) = nDays c) (hb : 0 ≤ b) :
    mz c (dearP q) (k + 1) past b = ((upN (roomP c past + 1)).map fun j => mz c (dearP q) k (past ++ [j]) (b - q.getD past.length 0 * j)).sum := by
  have hl : (past.length : Int) < nDays c := by omega
  have hr := (fut_room ok F hl).1
  have hpr : prA (dearP q) past = (0, 0, q.getD past.length 0) := by
    unfold prA atP dearP
    have hl2 : past.length < q.length := by unfold nDays at hl; omega
    rw [show ((past.length : Int) + 1 - 1).toNat = past.length by omega, List.getD_eq_getElem?_getD, List.getD_eq_getElem?_getD, List.getElem?_map, List.getElem?_eq_getElem hl2]
    rfl
  have hpay : ∀ x J : Int, paidI (0, 0, x) J = 0 := fun x J => by simp [paidI]
  rw [mz_succ hb, hpr]
  refine maxL_eq ?_ fun y hy => ?_
  · refine List.mem_map.mpr ⟨roomP c past, upN_mem.mpr ⟨hr, by omega⟩, ?_⟩
    congr 1
    refine List.map_congr_left fun j hj => ?_
    rw [hpay]
    congr 1
    show b - 0 - q.getD past.length 0 * j = _
    omega
  · obtain ⟨J, hJ, e⟩ := List.mem_map.mp hy
    rw [← e]
    have hJ := upN_mem.mp hJ
    refine sum_up_le (by omega) (fun x h1 h2 => ?_) fun x h1 h2 => mz_nonneg ok (fut_step ok F hl h1 (by omega)) (by rw [snoc_len]; omega)
    rw [hpay]
    show mz c (dearP q) k (past ++ [x]) (b - 0 - q.getD past.length 0 * x) ≤ _
    rw [show b - 0 - q.getD past.length 0 * x = b - q.getD past.length 0 * x by omega]
    exact Int.le_refl _
theorem costRow_snoc {q past : List Int} (h : past.length < q.length) (j : Int) : costRow q (past ++ [j]) = costRow q past + q.getD past.length 0 * j := by
  unfold costRow
  have e : (past ++ [j]).zip q = past.zip q ++ [(j, q.getD past.length 0)] := by
    have hq : q = q.take past.length ++ (q.getD past.length 0 :: q.drop (past.length + 1)) := by
      rw [List.getD_eq_getElem?_getD, List.getElem?_eq_getElem h]
      show q = q.take past.length ++ (q[past.length] :: _)
      rw [List.getElem_cons_drop, List.take_append_drop]
    conv => lhs; rw [hq]
    rw [List.zip_append (by rw [List.length_take]; omega)]
    congr 1
    · have hz : ∀ (l m : List Int), l.zip (m.take l.length) = l.zip m := fun l => by
        induction l with
        | nil => intro m; simp
        | cons a l ih =>
          intro m
          cases m with
          | nil => simp
          | cons b m => simp [ih]
      exact hz past q
  rw [e, List.map_append, List.sum_append]
  simp
  rw [Int.mul_comm]
theorem dear_count {c : Cal} (ok : CalA c) {q : List Int} (hq : q.length = c.length) (hq0 : ∀ x ∈ q, 0 ≤ x) {b : Int} (hb : 0 ≤ b) : mz c (dearP q) c.length [] b = ((sumsL c q).filter fun s => decide (s ≤ b)).length := by
  have hneg : ∀ k past, (past.length : Int) + (k : Nat) = nDays c → Fut c past → b - costRow q past < 0 → True := fun _ _ _ _ _ => trivial
  have := rows_tell ok (fun k past => mz c (dearP q) k past (b - costRow q past)) (fun k past hk F => by
    have hlq : past.length < q.length := by unfold nDays at hk; omega
    by_cases h : b - costRow q past < 0
    · rw [mz_neg h]
      refine (sum_zero fun x hx => ?_).symm
      refine mz_neg ?_
      rw [costRow_snoc hlq]
      have h1 : 0 ≤ q.getD past.length 0 := by
        rw [List.getD_eq_getElem?_getD, List.getElem?_eq_getElem hlq]
        exact hq0 _ (List.getElem_mem hlq)
      have := Int.mul_nonneg h1 (upN_mem.mp hx).1
      omega
    · rw [dear_step ok hq hq0 F hk (by omega)]
      congr 1
      refine List.map_congr_left fun x hx => ?_
      rw [costRow_snoc hlq]
      congr 1
      omega) c.length (Nat.le_refl _)
  rw [Nat.sub_self] at this
  have e0 : costRow q [] = 0 := rfl
  simp only [e0, Int.sub_zero] at this
  rw [← this]
  unfold sumsL
  generalize rowsN c c.length = L
  induction L with
  | nil => rfl
  | cons a L ih =>
    rw [List.map_cons, List.sum_cons, ih, List.map_cons, List.filter_cons]
    by_cases h : costRow q a ≤ b
    · rw [if_pos (decide_eq_true h), mz_zero (by omega), List.length_cons]; omega
    · rw [if_neg (by rw [decide_eq_true_eq]; exact h), mz_neg (by omega)]; omega
end BR

set_option Elab.async false
set_option linter.all false
set_option maxRecDepth 100000
set_option maxHeartbeats 1000000
/-! A5: a further day; an additional piece; the long calendar; twelve pieces. -/
namespace BR
open PD
/-! ### an additional piece -/
theorem plus1_len (c : Cal) : (plus1 c).length = c.length := by unfold plus1; rw [List.length_map]
theorem plus1_backs (c : Cal) : backs (plus1 c) = backs c := by
  unfold backs nDays
  rw [plus1_len]
  unfold plus1
  rw [List.map_map]; rfl
theorem plus1_own {c : Cal} {d : Int} (h1 : 1 ≤ d) (h2 : d ≤ nDays c) : at1 (owned (plus1 c)) d = at1 (owned c) d + 1 := by
  unfold at1 owned plus1
  unfold nDays at h2
  have hl : (d - 1).toNat < c.length := by omega
  rw [List.map_map, List.getD_eq_getElem?_getD, List.getD_eq_getElem?_getD, List.getElem?_map, List.getElem?_map, List.getElem?_eq_getElem hl]
  rfl
theorem plus1_away (c : Cal) (past : List Int) (l : Int) : awayP (plus1 c) past l = awayP c past l := by
  unfold awayP
  rw [plus1_backs]
theorem plus1_n (c : Cal) : nDays (plus1 c) = nDays c := by unfold nDays; rw [plus1_len]
theorem plus1_room {c : Cal} (ok : CalA c) (ok' : CalA (plus1 c)) {past : List Int} (nn : NonNeg past) (hl : (past.length : Int) < nDays c) : roomP c past ≤ roomP (plus1 c) past := by
  refine IsRoom.uniq (roomP_is ok' nn (by rw [plus1_n]; exact hl)) (roomP_is ok nn hl) fun j h1 h2 h3 => ?_
  rw [plus1_n] at h2
  rw [plus1_backs] at h3
  refine ⟨j, h1, h2, h3, ?_⟩
  rw [plus1_own (by omega) h2, plus1_away]
  omega
theorem plus1_fut {c : Cal} {past : List Int} (F : Fut c past) : Fut (plus1 c) past := ⟨F.nn, by rw [plus1_n]; exact F.len, fun l h1 h2 => by
  rw [plus1_n] at h2
  rw [plus1_own (by omega) h2, plus1_away]
  have := F.aw l h1 h2
  omega⟩
theorem more_mono {c : Cal} (ok : CalA c) (ok' : CalA (plus1 c)) {ps : List Price} {b : Int} : mz c ps c.length [] b ≤ mz (plus1 c) ps c.length [] b :=
  mz_mono ok ok' (plus1_n c) (fun past F hl => plus1_room ok ok' F.nn hl) (fun past F => plus1_fut F) (fun past _ => ⟨Int.le_refl _, Int.le_refl _, Int.le_refl _⟩) (fut_nil ok) (by unfold nDays; simp) (Int.le_refl b)
/-! ### a further day -/
theorem idle_len (c : Cal) : (idleC c).length = c.length + 1 := by unfold idleC; rw [List.length_append]; rfl
theorem idle_n (c : Cal) : nDays (idleC c) = nDays c + 1 := by unfold nDays; rw [idle_len]; omega
theorem idle_own {c : Cal} {d : Int} (h1 : 1 ≤ d) (h2 : d ≤ nDays c) : at1 (owned (idleC c)) d = at1 (owned c) d := by
  unfold at1 owned idleC
  unfold nDays at h2
  rw [List.map_append, List.getD_eq_getElem?_getD, List.getD_eq_getElem?_getD, List.getElem?_append_left (by rw [List.length_map]; omega)]
theorem idle_own_last {c : Cal} : at1 (owned (idleC c)) (nDays c + 1) = lastO c := by
  unfold at1 owned idleC nDays
  rw [List.map_append, List.getD_eq_getElem?_getD, show ((c.length : Int) + 1 - 1).toNat = c.length by omega, List.getElem?_append_right (by rw [List.length_map]; exact Nat.le_refl _), List.length_map, Nat.sub_self]
  rfl
theorem lastO_eq {c : Cal} (h : 1 ≤ c.length) : lastO c = at1 (owned c) (nDays c) := by
  unfold lastO at1 owned nDays
  rw [List.getLast?_eq_getElem?, List.getD_eq_getElem?_getD, List.getElem?_map, show ((c.length : Int) - 1).toNat = c.length - 1 by omega, List.getElem?_eq_getElem (by omega)]
  rfl
theorem idle_back {c : Cal} {d l : Int} (h1 : 1 ≤ d) (h2 : d ≤ nDays c) (hl : l ≤ nDays c) : l < at1 (backs (idleC c)) d ↔ l < at1 (backs c) d := by
  unfold at1 backs
  rw [idle_n]
  unfold nDays at h2 hl ⊢
  have hd : (d - 1).toNat < c.length := by omega
  unfold idleC
  rw [List.map_append, List.getD_eq_getElem?_getD, List.getD_eq_getElem?_getD, List.getElem?_append_left (by rw [List.length_map]; exact hd), List.getElem?_map, List.getElem?_map, List.getElem?_eq_getElem hd]
  show l < back1 _ _ ↔ l < back1 _ _
  unfold back1
  cases (c[(d - 1).toNat]).2 with
  | none => show l < (c.length : Int) + 1 + 1 ↔ l < (c.length : Int) + 1; omega
  | some b =>
    show (l < if (c.length : Int) + 1 + 1 < b then (c.length : Int) + 1 + 1 else b) ↔ (l < if (c.length : Int) + 1 < b then (c.length : Int) + 1 else b)
    split <;> split <;> omega
theorem idle_back_last {c : Cal} {d : Int} (h1 : 1 ≤ d) (h2 : d ≤ nDays c) (hb : nDays c + 1 < at1 (backs (idleC c)) d) : nDays c < at1 (backs c) d := by
  refine (idle_back h1 h2 (Int.le_refl _)).mp (by omega)
theorem idle_away {c : Cal} {l : Int} (hl : l ≤ nDays c) : ∀ {past : List Int}, (past.length : Int) ≤ nDays c → awayP (idleC c) past l = awayP c past l := fun {past} => by
  induction past using snocInd with
  | h0 => intro _; rfl
  | h1 p x ih =>
    intro h
    rw [snoc_len] at h
    rw [awayP_snoc, awayP_snoc, ih (by omega)]
    have := idle_back (c := c) (d := (p.length : Int) + 1) (l := l) (by omega) h hl
    by_cases q : l < at1 (backs c) ((p.length : Int) + 1)
    · rw [if_pos q, if_pos (this.mpr q)]
    · rw [if_neg q, if_neg fun z => q (this.mp z)]
theorem idle_room {c : Cal} (ok : CalA c) (ok' : CalA (idleC c)) {past : List Int} (nn : NonNeg past) (hl : (past.length : Int) < nDays c) : roomP (idleC c) past = roomP c past := by
  have hl' : (past.length : Int) < nDays (idleC c) := by rw [idle_n]; omega
  have R := roomP_is ok nn hl
  have R' := roomP_is ok' nn hl'
  have hn : 1 ≤ c.length := by unfold nDays at hl; omega
  refine Int.le_antisymm ?_ ?_
  · refine IsRoom.uniq R R' fun j h1 h2 h3 => ?_
    refine ⟨j, h1, by rw [idle_n]; omega, (idle_back (by omega) (by omega) h2).mpr h3, ?_⟩
    rw [idle_own (by omega) h2, idle_away h2 (by omega)]
    exact Int.le_refl _
  · refine IsRoom.uniq R' R fun j h1 h2 h3 => ?_
    rw [idle_n] at h2
    by_cases z : j ≤ nDays c
    · refine ⟨j, h1, z, (idle_back (by omega) (by omega) z).mp h3, ?_⟩
      rw [idle_own (by omega) z, idle_away z (by omega)]
      exact Int.le_refl _
    · have e : j = nDays c + 1 := by omega
      subst e
      refine ⟨nDays c, by omega, Int.le_refl _, idle_back_last (by omega) (by omega) h3, ?_⟩
      rw [idle_own_last, lastO_eq hn]
      have h4 := awayP_anti (c := idleC c) (l := nDays c) (l' := nDays c + 1) (by omega) nn
      rw [idle_away (Int.le_refl _) (by omega)] at h4
      omega
theorem idle_price {ps : List Price} {x : Price} {past : List Int} (h : past.length < ps.length) : prA (ps ++ [x]) past = prA ps past := by
  unfold prA atP
  rw [List.getD_eq_getElem?_getD, List.getD_eq_getElem?_getD, List.getElem?_append_left (by omega)]
theorem idle_price_last {ps : List Price} {x : Price} {past : List Int} (h : past.length = ps.length) : prA (ps ++ [x]) past = x := by
  unfold prA atP
  rw [List.getD_eq_getElem?_getD, List.getElem?_append_right (by omega), show ((past.length : Int) + 1 - 1).toNat - ps.length = 0 by omega]
  rfl
theorem prA_mem {ps : List Price} {past : List Int} (h : past.length < ps.length) : prA ps past ∈ ps := by
  unfold prA atP
  rw [List.getD_eq_getElem?_getD, List.getElem?_eq_getElem (by omega)]
  exact List.getElem_mem _
theorem paid_nonneg {p : Price} (h : 0 ≤ p.1 ∧ 0 ≤ p.2.1 ∧ 0 ≤ p.2.2) {J : Int} (hJ : 0 ≤ J) : 0 ≤ paidI p J := by
  unfold paidI
  have h2 := Int.mul_nonneg h.2.1 hJ
  split <;> omega
theorem mz_idle {c : Cal} (ok : CalA c) (ok' : CalA (idleC c)) {ps : List Price} (hp : ps.length = c.length) (hpr : PrOk ps) {lim : Int} : ∀ {k : Nat} {past : List Int} {b : Int}, Fut c past → Fut (idleC c) past → (past.length : Int) + k = nDays c → b ≤ lim → mz (idleC c) (ps ++ [(lim + 1, 0, 0)]) (k + 1) past b = mz c ps k past b
  | 0, past, b, F, F', hk, hb => by
    by_cases h0 : b < 0
    · rw [mz_neg h0, mz_neg h0]
    · have hl' : (past.length : Int) < nDays (idleC c) := by rw [idle_n]; omega
      have hr := (fut_room ok' F' hl').1
      rw [mz_zero (by omega), mz_succ (by omega), idle_price_last (by rw [hp]; unfold nDays at hk; omega)]
      refine maxL_eq ?_ fun y hy => ?_
      · refine List.mem_map.mpr ⟨0, upN_mem.mpr ⟨Int.le_refl _, by omega⟩, ?_⟩
        show (([((0 : Nat) : Int)].map _) : List Int).sum = 1
        simp only [List.map_cons, List.map_nil, List.sum_cons, List.sum_nil]
        rw [show b - paidI (lim + 1, 0, 0) 0 - 0 * ((0 : Nat) : Int) = b by simp [paidI], mz_zero (by omega)]
        rfl
      · obtain ⟨J, hJ, e⟩ := List.mem_map.mp hy
        have hJ := upN_mem.mp hJ
        rw [← e]
        by_cases z : J = 0
        · subst z
          show (([((0 : Nat) : Int)].map _) : List Int).sum ≤ 1
          simp only [List.map_cons, List.map_nil, List.sum_cons, List.sum_nil]
          rw [show b - paidI (lim + 1, 0, 0) 0 - 0 * ((0 : Nat) : Int) = b by simp [paidI], mz_zero (by omega)]
          decide
        · have : ((upN (J + 1)).map fun j => mz (idleC c) (ps ++ [(lim + 1, 0, 0)]) 0 (past ++ [j]) (b - paidI (lim + 1, 0, 0) J - 0 * j)).sum = 0 := sum_zero fun j hj => mz_neg (by
            unfold paidI
            rw [if_pos (by omega)]
            show b - ((lim + 1) * 1 + 0 * J) - 0 * j < 0
            omega)
          show ((upN (J + 1)).map fun j => mz (idleC c) (ps ++ [(lim + 1, 0, 0)]) 0 (past ++ [j]) (b - paidI (lim + 1, 0, 0) J - 0 * j)).sum ≤ 1
          omega
  | k + 1, past, b, F, F', hk, hb => by
    by_cases h0 : b < 0
    · rw [mz_neg h0, mz_neg h0]
    · have hl : (past.length : Int) < nDays c := by omega
      have hl' : (past.length : Int) < nDays (idleC c) := by rw [idle_n]; omega
      have hroom := idle_room ok ok' F.nn hl
      have hr := (fut_room ok F hl).1
      have hpl : past.length < ps.length := by rw [hp]; unfold nDays at hl; omega
      rw [mz_succ (by omega), mz_succ (by omega), hroom, idle_price hpl]
      congr 1
      refine List.map_congr_left fun J hJ => ?_
      have hJ := upN_mem.mp hJ
      congr 1
      refine List.map_congr_left fun j hj => ?_
      have hj := upN_mem.mp hj
      by_cases q : b - paidI (prA ps past) J - (prA ps past).2.2 * j < 0
      · rw [mz_neg q, mz_neg q]
      · by_cases q2 : b - paidI (prA ps past) J - (prA ps past).2.2 * j ≤ lim
        · exact mz_idle ok ok' hp hpr (fut_step ok F hl hj.1 (by omega)) (fut_step ok' F' hl' hj.1 (by omega)) (by rw [snoc_len]; omega) q2
        · have hm := hpr _ (prA_mem hpl)
          have h1 := paid_nonneg hm hJ.1
          have h2 := Int.mul_nonneg hm.2.2 hj.1
          omega
/-! ### the long calendar -/
theorem long_n : nDays longC = 100 := by unfold nDays longC; rw [List.length_replicate]; rfl
theorem long_own {d : Int} (h1 : 1 ≤ d) (h2 : d ≤ 100) : at1 (owned longC) d = 1 := by
  unfold at1 owned longC
  rw [List.map_replicate, List.getD_eq_getElem?_getD, List.getElem?_replicate, if_pos (by omega)]
  rfl
theorem long_back {d : Int} (h1 : 1 ≤ d) (h2 : d ≤ 100) : at1 (backs longC) d = 101 := by
  unfold at1 backs
  rw [long_n]
  unfold longC
  rw [List.map_replicate, List.getD_eq_getElem?_getD, List.getElem?_replicate, if_pos (by omega)]
  rfl
theorem long_away {l : Int} (hl : l ≤ 100) : ∀ {past : List Int}, past.length ≤ 100 → awayP longC past l = past.sum := fun {past} => by
  induction past using snocInd with
  | h0 => intro _; rfl
  | h1 p x ih =>
    intro h
    rw [List.length_append, List.length_singleton] at h
    rw [awayP_snoc, ih (by omega), List.sum_append, long_back (by omega) (by omega), if_pos (by omega)]
    simp
theorem long_calA : CalA longC := ⟨fun d => by
  unfold at1 owned longC
  rw [List.map_replicate, List.getD_eq_getElem?_getD, List.getElem?_replicate]
  split <;> simp, fun d h1 h2 => by rw [long_n] at h2; rw [long_back h1 h2]; omega⟩
theorem long_room {past : List Int} (nn : NonNeg past) (hl : past.length < 100) : roomP longC past = 1 - past.sum := by
  obtain ⟨j, h1, h2, h3, e⟩ := (roomP_is long_calA nn (by rw [long_n]; omega)).ex
  rw [long_n] at h2
  rw [e, long_own (by omega) h2, long_away h2 (by omega)]
theorem long_price {p : Price} {past : List Int} (hl : past.length < 100) : prA (List.replicate 100 p) past = p := by
  unfold prA atP
  rw [List.getD_eq_getElem?_getD, List.getElem?_replicate, if_pos (by omega)]
  rfl
theorem long_paid {u : Int} {p : Price} (hp : p = (u, 0, 0) ∨ p = (0, u, 0)) : paidI p 0 = 0 ∧ paidI p 1 = u ∧ p.2.2 = 0 := by
  rcases hp with e | e <;> subst e <;> simp [paidI]
theorem upN_one : upN 1 = [0] := by decide
theorem upN_two : upN 2 = [0, 1] := by decide
theorem long_one {u : Int} {p : Price} (hp : p = (u, 0, 0) ∨ p = (0, u, 0)) : ∀ {k : Nat} {past : List Int} {b : Int}, NonNeg past → past.length + k = 100 → past.sum = 1 → 0 ≤ b → mz longC (List.replicate 100 p) k past b = 1
  | 0, past, b, nn, hk, hs, hb => mz_zero hb
  | k + 1, past, b, nn, hk, hs, hb => by
    obtain ⟨e0, e1, e2⟩ := long_paid hp
    rw [mz_succ hb, long_room nn (by omega), hs, long_price (by omega), show (1 : Int) - 1 + 1 = 1 by decide, upN_one]
    simp only [List.map_cons, List.map_nil]
    rw [show (0 : Int) + 1 = 1 by decide, upN_one]
    simp only [List.map_cons, List.map_nil, List.sum_cons, List.sum_nil]
    rw [e0, show b - 0 - p.2.2 * 0 = b by omega, long_one hp (nn.snoc (by decide)) (by rw [List.length_append, List.length_singleton]; omega) (by rw [List.sum_append, hs]; rfl) hb]
    rfl
theorem long_zero {u : Int} (hu : 1 ≤ u) {p : Price} (hp : p = (u, 0, 0) ∨ p = (0, u, 0)) : ∀ {k : Nat} {past : List Int} {b : Int}, NonNeg past → past.length + k = 100 → past.sum = 0 → 0 ≤ b → mz longC (List.replicate 100 p) k past b = 1 + min (k : Int) (b / u)
  | 0, past, b, nn, hk, hs, hb => by
    rw [mz_zero hb]
    have := Int.ediv_nonneg hb (show 0 ≤ u by omega)
    rw [Int.min_eq_left (by omega)]; rfl
  | k + 1, past, b, nn, hk, hs, hb => by
    obtain ⟨e0, e1, e2⟩ := long_paid hp
    have hl0 : (past ++ [(0 : Int)]).length + k = 100 := by rw [List.length_append, List.length_singleton]; omega
    have hl1 : (past ++ [(1 : Int)]).length + k = 100 := by rw [List.length_append, List.length_singleton]; omega
    have hs0 : (past ++ [(0 : Int)]).sum = 0 := by rw [List.sum_append, hs]; rfl
    have hs1 : (past ++ [(1 : Int)]).sum = 1 := by rw [List.sum_append, hs]; rfl
    rw [mz_succ hb, long_room nn (by omega), hs, long_price (by omega), show (1 : Int) - 0 + 1 = 2 by decide, upN_two]
    simp only [List.map_cons, List.map_nil]
    rw [show (0 : Int) + 1 = 1 by decide, upN_one, show (1 : Int) + 1 = 2 by decide, upN_two]
    simp only [List.map_cons, List.map_nil, List.sum_cons, List.sum_nil]
    rw [e0, e1, e2, show b - 0 - 0 * 0 = b by omega, show b - u - 0 * 0 = b - u by omega, show b - u - 0 * 1 = b - u by omega]
    rw [long_zero hu hp (nn.snoc (by decide)) hl0 hs0 hb]
    have hq := Int.ediv_nonneg hb (show 0 ≤ u by omega)
    by_cases h : b < u
    · rw [mz_neg (by omega), mz_neg (by omega), Int.ediv_eq_zero_of_lt hb h]
      rw [Int.min_eq_right (by omega), Int.min_eq_right (by omega)]
      rfl
    · rw [long_zero hu hp (nn.snoc (by decide)) hl0 hs0 (by omega), long_one hp (nn.snoc (by decide)) hl1 hs1 (by omega)]
      have e : (b - u) / u = b / u - 1 := by
        have := Int.add_mul_ediv_right b (-1) (show u ≠ 0 by omega)
        rw [show b + -1 * u = b - u by omega] at this
        omega
      rw [e]
      have h1 : 1 ≤ b / u := (Int.le_ediv_iff_mul_le (by omega)).mpr (by omega)
      show (if _ < _ then _ else _) = _
      generalize b / u = q at hq h1
      have hm1 : min ((k : Nat) : Int) q = if ((k : Nat) : Int) ≤ q then ((k : Nat) : Int) else q := rfl
      have hm2 : min ((k : Nat) : Int) (q - 1) = if ((k : Nat) : Int) ≤ q - 1 then ((k : Nat) : Int) else q - 1 := rfl
      have hm3 : min (((k + 1 : Nat) : Int)) q = if ((k + 1 : Nat) : Int) ≤ q then ((k + 1 : Nat) : Int) else q := rfl
      rw [hm1, hm2, hm3]
      show (if (1 + (if ((k : Nat) : Int) ≤ q then ((k : Nat) : Int) else q)) + 0 < maxL [1 + (if ((k : Nat) : Int) ≤ q - 1 then ((k : Nat) : Int) else q - 1) + (1 + 0)] then _ else _) = _
      simp only [maxL]
      split <;> split <;> split <;> split <;> omega
theorem long_val {u : Int} (hu : 1 ≤ u) {p : Price} (hp : p = (u, 0, 0) ∨ p = (0, u, 0)) {b : Int} (hb : 0 ≤ b) : mz longC (List.replicate 100 p) 100 [] b = 1 + min 100 (b / u) :=
  long_zero hu hp (fun _ h => nomatch h) rfl rfl hb
end BR

set_option Elab.async false
set_option linter.all false
set_option maxRecDepth 100000
set_option maxHeartbeats 1000000
/-! A6: ordered lists of costs against numbers of levels. -/
namespace BR
open PD
/-- how many are at most b -/
def cntLe (b : Int) (l : List Int) : Nat := (l.filter fun x => decide (x ≤ b)).length
def Asc (l : List Int) : Prop := l.Pairwise (· ≤ ·)
theorem cntLe_cons (b x : Int) (l : List Int) : cntLe b (x :: l) = (if x ≤ b then 1 else 0) + cntLe b l := by
  unfold cntLe
  rw [List.filter_cons]
  by_cases h : x ≤ b
  · rw [if_pos (decide_eq_true h), if_pos h, List.length_cons]; omega
  · rw [if_neg (by rw [decide_eq_true_eq]; exact h), if_neg h]; omega
theorem cntLe_nil (b : Int) : cntLe b [] = 0 := rfl
theorem cntLe_le (b : Int) (l : List Int) : cntLe b l ≤ l.length := List.length_filter_le _ _
theorem cntLe_zero {b x : Int} {l : List Int} (h : Asc (x :: l)) (hx : b < x) : cntLe b (x :: l) = 0 := by
  unfold cntLe
  rw [List.filter_eq_nil_iff.mpr]
  · rfl
  intro y hy
  rw [decide_eq_true_eq]
  rcases List.mem_cons.mp hy with e | e
  · omega
  · have := (List.pairwise_cons.mp h).1 y e; omega
theorem cntLe_take {b : Int} : ∀ {l : List Int} (m : Nat), Asc l → cntLe b (l.take m) = min m (cntLe b l)
  | [], m, _ => by simp [cntLe_nil]
  | x :: l, 0, _ => by simp [cntLe_nil]
  | x :: l, m + 1, h => by
    rw [List.take_succ_cons]
    by_cases hx : x ≤ b
    · rw [cntLe_cons, cntLe_cons, if_pos hx, cntLe_take m (List.pairwise_cons.mp h).2]
      omega
    · have h2 : Asc (x :: l.take m) := (List.Pairwise.sublist (List.Sublist.cons_cons x (List.take_sublist m l)) h)
      rw [cntLe_zero h2 (by omega), cntLe_zero h (by omega)]
      omega
theorem cntLe_perm {b : Int} {l l' : List Int} (h : l.Perm l') : cntLe b l = cntLe b l' := (h.filter _).length_eq
theorem cntLe_append (b : Int) (l l' : List Int) : cntLe b (l ++ l') = cntLe b l + cntLe b l' := by
  unfold cntLe
  rw [List.filter_append, List.length_append]
theorem cntLe_shift (b a : Int) : ∀ l : List Int, cntLe b (l.map fun x => a + x) = cntLe (b - a) l
  | [] => rfl
  | x :: l => by
    rw [List.map_cons, cntLe_cons, cntLe_cons, cntLe_shift b a l]
    congr 1
    by_cases h : x ≤ b - a
    · rw [if_pos h, if_pos (by omega)]
    · rw [if_neg h, if_neg (by omega)]
/-- the least of two, place by place -/
theorem stepC_nil (l : List Int) : stepC [] l = l := by unfold stepC; simp
theorem stepC_nil' (l : List Int) : stepC l [] = l := by unfold stepC; simp
theorem stepC_cons (a x : Int) (l m : List Int) : stepC (a :: l) (x :: m) = minI a x :: stepC l m := by unfold stepC; simp
theorem minI_eq (a b : Int) : minI a b = min a b := by unfold minI; split <;> omega
theorem stepC_mem : ∀ {l m : List Int} {lo : Int}, (∀ x ∈ l, lo ≤ x) → (∀ x ∈ m, lo ≤ x) → ∀ x ∈ stepC l m, lo ≤ x
  | [], m, lo, h1, h2, x, hx => by rw [stepC_nil] at hx; exact h2 x hx
  | a :: l, [], lo, h1, h2, x, hx => by rw [stepC_nil'] at hx; exact h1 x hx
  | a :: l, y :: m, lo, h1, h2, x, hx => by
    rw [stepC_cons] at hx
    rcases List.mem_cons.mp hx with e | e
    · rw [e, minI_eq]
      have := h1 a List.mem_cons_self
      have := h2 y List.mem_cons_self
      omega
    · exact stepC_mem (fun z hz => h1 z (List.mem_cons_of_mem _ hz)) (fun z hz => h2 z (List.mem_cons_of_mem _ hz)) x e
theorem stepC_asc : ∀ {l m : List Int}, Asc l → Asc m → Asc (stepC l m)
  | [], m, h1, h2 => by rw [stepC_nil]; exact h2
  | a :: l, [], h1, h2 => by rw [stepC_nil']; exact h1
  | a :: l, y :: m, h1, h2 => by
    rw [stepC_cons]
    obtain ⟨g1, g2⟩ := List.pairwise_cons.mp h1
    obtain ⟨g3, g4⟩ := List.pairwise_cons.mp h2
    refine List.pairwise_cons.mpr ⟨?_, stepC_asc g2 g4⟩
    rw [minI_eq]
    exact stepC_mem (fun z hz => by have := g1 z hz; omega) (fun z hz => by have := g3 z hz; omega)
theorem stepC_length : ∀ {l m : List Int}, (stepC l m).length = max l.length m.length
  | [], m => by rw [stepC_nil]; simp
  | a :: l, [] => by rw [stepC_nil']; simp
  | a :: l, y :: m => by rw [stepC_cons, List.length_cons, stepC_length, List.length_cons, List.length_cons]; omega
theorem stepC_cnt {b : Int} : ∀ {l m : List Int}, Asc l → Asc m → cntLe b (stepC l m) = max (cntLe b l) (cntLe b m)
  | [], m, h1, h2 => by rw [stepC_nil, cntLe_nil]; omega
  | a :: l, [], h1, h2 => by rw [stepC_nil', cntLe_nil]; omega
  | a :: l, y :: m, h1, h2 => by
    have ih := stepC_cnt (b := b) (List.pairwise_cons.mp h1).2 (List.pairwise_cons.mp h2).2
    rw [stepC_cons, cntLe_cons, ih, minI_eq]
    by_cases ha : a ≤ b
    · by_cases hy : y ≤ b
      · rw [if_pos (by omega), cntLe_cons, cntLe_cons, if_pos ha, if_pos hy]; omega
      · rw [cntLe_zero h2 (by omega), if_pos (by omega), cntLe_cons, if_pos ha]
        have : cntLe b m = 0 := by
          have := cntLe_zero h2 (show b < y by omega)
          rw [cntLe_cons] at this; omega
        omega
    · by_cases hy : y ≤ b
      · rw [cntLe_zero h1 (by omega), if_pos (by omega), cntLe_cons, if_pos hy]
        have : cntLe b l = 0 := by
          have := cntLe_zero h1 (show b < a by omega)
          rw [cntLe_cons] at this; omega
        omega
      · have e1 := cntLe_zero h1 (show b < a by omega)
        have e2 := cntLe_zero h2 (show b < y by omega)
        rw [cntLe_cons] at e1 e2
        rw [if_neg (by omega), cntLe_cons, cntLe_cons]
        omega
/-- the place of the costs -/
theorem asc_get {l : List Int} (h : Asc l) {i : Nat} (hi : i < l.length) (b : Int) : l[i] ≤ b ↔ i < cntLe b l := by
  induction l generalizing i with
  | nil => cases hi
  | cons x l ih =>
    by_cases hx : x ≤ b
    · rw [cntLe_cons, if_pos hx]
      cases i with
      | zero => show x ≤ b ↔ _; omega
      | succ i =>
        have := ih (List.pairwise_cons.mp h).2 (i := i) (by simpa using hi)
        show l[i]'(by simpa using hi) ≤ b ↔ _
        rw [this]; omega
    · rw [cntLe_zero h (by omega)]
      constructor
      · intro g
        cases i with
        | zero => exact absurd (show x ≤ b from g) hx
        | succ i =>
          have := (List.pairwise_cons.mp h).1 _ (List.getElem_mem (show i < l.length by simpa using hi))
          have g : l[i]'(by simpa using hi) ≤ b := g
          omega
      · omega
/-! ### the costs of the program -/
/-- L holds the least worst costs behind a past -/
structure IsLC (c : Cal) (ps : List Price) (lv k : Nat) (past : List Int) (L : List Int) : Prop where
  asc : Asc L
  len : (L.length : Int) = min (lv : Int) (cntP c k past)
  cnt : ∀ b, (cntLe b L : Int) = min (lv : Int) (mz c ps k past b)
theorem raw_fst (pr : Price) (used number : Int) (L : List Int) : (rawN pr used number L).map (·.1) = L.map fun x => (paidI pr used + pr.2.2 * number) + x := by
  unfold rawN
  apply List.ext_getElem?
  intro i
  simp only [List.getElem?_map, List.getElem?_mapIdx]
  cases L[i]? <;> rfl
theorem rawR_fst (pr : Price) (fs : List State) (lc : State → List Int) (used : Int) : (rawR pr fs lc used).map (·.1) = (upN (used + 1)).flatMap fun number => (lc (fs.getD number.toNat [])).map fun x => (paidI pr used + pr.2.2 * number) + x := by
  unfold rawR
  rw [List.map_flatMap]
  congr 1
  funext number
  exact raw_fst _ _ _ _
theorem cntLe_flatMap {b : Int} (g : Int → List Int) : ∀ l : List Int, (cntLe b (l.flatMap g) : Int) = (l.map fun x => (cntLe b (g x) : Int)).sum
  | [] => rfl
  | a :: l => by
    rw [List.flatMap_cons, cntLe_append, List.map_cons, List.sum_cons, ← cntLe_flatMap g l]; omega
theorem len_flatMap (g : Int → List Int) : ∀ l : List Int, (((l.flatMap g).length : Nat) : Int) = (l.map fun x => ((g x).length : Int)).sum
  | [] => rfl
  | a :: l => by
    rw [List.flatMap_cons, List.length_append, List.map_cons, List.sum_cons, ← len_flatMap g l]; omega
theorem min_sum {α : Type} {lv : Int} (h0 : 0 ≤ lv) {f : α → Int} : ∀ {l : List α}, (∀ x ∈ l, 0 ≤ f x) → min lv ((l.map fun x => min lv (f x)).sum) = min lv ((l.map f).sum)
  | [], _ => rfl
  | a :: l, h => by
    have ih := min_sum h0 (l := l) fun x hx => h x (List.mem_cons_of_mem _ hx)
    have ha := h a List.mem_cons_self
    have h1 := sum_nonneg (l := l) (f := f) fun x hx => h x (List.mem_cons_of_mem _ hx)
    have h2 := sum_nonneg (l := l) (f := fun x => min lv (f x)) fun x hx => by have := h x (List.mem_cons_of_mem _ hx); omega
    rw [List.map_cons, List.sum_cons, List.map_cons, List.sum_cons]
    omega
/-- with so many pieces used -/
theorem some_is {c : Cal} (ok : CalA c) {ps : List Price} {lv k : Nat} {past : List Int} {fs : List State} {lc : State → List Int} (F : Fut c past) (hk : (past.length : Int) + (k + 1 : Nat) = nDays c)
    (hlc : ∀ j : Int, 0 ≤ j → j ≤ roomP c past → IsLC c ps lv k (past ++ [j]) (lc (fs.getD j.toNat []))) {J : Int} (h0 : 0 ≤ J) (h1 : J ≤ roomP c past) :
    Asc (someC (prA ps past) fs lc lv J) ∧ ((someC (prA ps past) fs lc lv J).length : Int) = min (lv : Int) ((upN (J + 1)).map fun j => cntP c k (past ++ [j])).sum ∧
      ∀ b, (cntLe b (someC (prA ps past) fs lc lv J) : Int) = min (lv : Int) ((upN (J + 1)).map fun j => mz c ps k (past ++ [j]) (b - paidI (prA ps past) J - (prA ps past).2.2 * j)).sum := by
  have hl : (past.length : Int) < nDays c := by omega
  have hF : ∀ j ∈ upN (J + 1), Fut c (past ++ [j]) ∧ ((past ++ [j]).length : Int) + k = nDays c := fun j hj => by
    have hj := upN_mem.mp hj
    exact ⟨fut_step ok F hl hj.1 (by omega), by rw [snoc_len]; omega⟩
  have hI : ∀ j ∈ upN (J + 1), IsLC c ps lv k (past ++ [j]) (lc (fs.getD j.toNat [])) := fun j hj => by
    have hj := upN_mem.mp hj
    exact hlc j hj.1 (by omega)
  have hperm := List.mergeSort_perm ((rawR (prA ps past) fs lc J).map (·.1)) (fun a b => decide (a ≤ b))
  have hsort : Asc (((rawR (prA ps past) fs lc J).map (·.1)).mergeSort fun a b => decide (a ≤ b)) :=
    (List.pairwise_mergeSort (le := fun a b : Int => decide (a ≤ b)) (fun a b c h1 h2 => by simp only [decide_eq_true_eq] at *; omega) (fun a b => by simp only [Bool.or_eq_true, decide_eq_true_eq]; omega) _).imp fun {a b} h => of_decide_eq_true h
  unfold someC
  refine ⟨hsort.sublist (List.take_sublist _ _), ?_, fun b => ?_⟩
  · rw [List.length_take, hperm.length_eq, rawR_fst]
    have e := len_flatMap (fun number => (lc (fs.getD number.toNat [])).map fun x => (paidI (prA ps past) J + (prA ps past).2.2 * number) + x) (upN (J + 1))
    have e2 : ((upN (J + 1)).map fun number => ((((lc (fs.getD number.toNat [])).map fun x => (paidI (prA ps past) J + (prA ps past).2.2 * number) + x).length : Nat) : Int)) = (upN (J + 1)).map fun j => min (lv : Int) (cntP c k (past ++ [j])) := List.map_congr_left fun j hj => by
      rw [List.length_map]
      exact (hI j hj).len
    rw [e2] at e
    have e3 := min_sum (lv := (lv : Int)) (by omega) (l := upN (J + 1)) (f := fun j => cntP c k (past ++ [j])) fun j hj => by
      have := cntP_pos ok (hF j hj).1 (hF j hj).2
      omega
    omega
  · rw [cntLe_take _ hsort, cntLe_perm hperm, rawR_fst]
    have e := cntLe_flatMap (b := b) (fun number => (lc (fs.getD number.toNat [])).map fun x => (paidI (prA ps past) J + (prA ps past).2.2 * number) + x) (upN (J + 1))
    have e2 : ((upN (J + 1)).map fun number => (cntLe b ((lc (fs.getD number.toNat [])).map fun x => (paidI (prA ps past) J + (prA ps past).2.2 * number) + x) : Int)) = (upN (J + 1)).map fun j => min (lv : Int) (mz c ps k (past ++ [j]) (b - paidI (prA ps past) J - (prA ps past).2.2 * j)) := List.map_congr_left fun j hj => by
      rw [cntLe_shift, (hI j hj).cnt]
      congr 2
      omega
    rw [e2] at e
    have e3 := min_sum (lv := (lv : Int)) (by omega) (l := upN (J + 1)) (f := fun j => mz c ps k (past ++ [j]) (b - paidI (prA ps past) J - (prA ps past).2.2 * j)) fun j hj => mz_nonneg ok (hF j hj).1 (hF j hj).2
    omega
/-- the greatest over the pieces used, so far -/
def maxUp (f : Int → Int) : Nat → Int
  | 0 => 0
  | n + 1 => max (maxUp f n) (f (n : Nat))
theorem maxUp_le {f : Int → Int} {m : Int} : ∀ {n : Nat}, 0 ≤ m → (∀ i : Nat, i < n → f (i : Nat) ≤ m) → maxUp f n ≤ m
  | 0, h0, _ => h0
  | n + 1, h0, h => by
    have h1 := maxUp_le (n := n) h0 fun i hi => h i (by omega)
    have h2 := h n (by omega)
    show max _ _ ≤ m
    omega
theorem le_maxUp {f : Int → Int} : ∀ {n i : Nat}, i < n → f (i : Nat) ≤ maxUp f n
  | n + 1, i, h => by
    show _ ≤ max (maxUp f n) (f (n : Nat))
    by_cases e : i = n
    · rw [e]; omega
    · have := le_maxUp (f := f) (n := n) (i := i) (by omega); omega
theorem maxL_maxUp {f : Int → Int} {n : Nat} (h0 : ∀ i : Nat, i < n + 1 → 0 ≤ f (i : Nat)) : maxL ((upN ((n : Nat) + 1)).map f) = maxUp f (n + 1) := by
  have hne := upN_map_ne (n := (n : Int)) (by omega) f
  refine Int.le_antisymm ?_ ?_
  · refine maxL_le hne fun y hy => ?_
    obtain ⟨x, hx, e⟩ := List.mem_map.mp hy
    have hx := upN_mem.mp hx
    rw [← e]
    have := le_maxUp (f := f) (n := n + 1) (i := x.toNat) (by omega)
    rwa [Int.toNat_of_nonneg hx.1] at this
  · have hz : 0 ≤ maxL ((upN ((n : Nat) + 1)).map f) := by
      have h1 : f ((0 : Nat) : Int) ∈ (upN ((n : Nat) + 1)).map f := List.mem_map_of_mem (upN_mem.mpr ⟨by omega, by omega⟩)
      have := le_maxL h1
      have := h0 0 (by omega)
      omega
    exact maxUp_le hz fun i hi => le_maxL (List.mem_map_of_mem (upN_mem.mpr ⟨by omega, by omega⟩))
theorem costs_is {c : Cal} (ok : CalA c) {ps : List Price} {lv k : Nat} {past : List Int} {fs : List State} {lc : State → List Int} (F : Fut c past) (hk : (past.length : Int) + (k + 1 : Nat) = nDays c)
    (hlc : ∀ j : Int, 0 ≤ j → j ≤ roomP c past → IsLC c ps lv k (past ++ [j]) (lc (fs.getD j.toNat []))) : ∀ {n : Nat}, (n : Int) ≤ roomP c past + 1 →
    Asc (costsAt (prA ps past) fs lc lv n) ∧ ((costsAt (prA ps past) fs lc lv n).length : Int) = min (lv : Int) (maxUp (fun J => ((upN (J + 1)).map fun j => cntP c k (past ++ [j])).sum) n) ∧
      ∀ b, (cntLe b (costsAt (prA ps past) fs lc lv n) : Int) = min (lv : Int) (maxUp (fun J => ((upN (J + 1)).map fun j => mz c ps k (past ++ [j]) (b - paidI (prA ps past) J - (prA ps past).2.2 * j)).sum) n)
  | 0, _ => by
    have e : costsAt (prA ps past) fs lc lv ((0 : Nat) : Int) = [] := by unfold costsAt upN; rfl
    rw [e]
    refine ⟨List.Pairwise.nil, ?_, fun b => ?_⟩
    · show ((0 : Nat) : Int) = min (lv : Int) 0; omega
    · show ((0 : Nat) : Int) = min (lv : Int) 0; omega
  | n + 1, h => by
    obtain ⟨a1, a2, a3⟩ := costs_is ok F hk hlc (n := n) (by omega)
    obtain ⟨b1, b2, b3⟩ := some_is ok F hk hlc (J := (n : Nat)) (by omega) (by omega)
    rw [show ((n + 1 : Nat) : Int) = (n : Int) + 1 by omega, costsAt_succ (by omega)]
    refine ⟨stepC_asc a1 b1, ?_, fun b => ?_⟩
    · rw [stepC_length]
      show _ = min (lv : Int) (max (maxUp _ n) _)
      dsimp only
      omega
    · rw [stepC_cnt a1 b1]
      have h1 := a3 b
      have h2 := b3 b
      show _ = min (lv : Int) (max (maxUp _ n) _)
      dsimp only
      omega
theorem lcK_is {c : Cal} (ok : CalOk c) {ps : List Price} (hpl : ps.length = c.length) (hpr : PrOk ps) {lv : Nat} (hlv : 1 ≤ lv) : ∀ {k : Nat} {past : List Int} {s : State}, RelS c past s → Fut c past → (past.length : Int) + k = nDays c → IsLC c ps lv k past (lcK c ps lv k s)
  | 0, past, s, R, F, hk => by
    refine ⟨by show Asc [0]; exact List.pairwise_singleton _ _, ?_, fun b => ?_⟩
    · show ((1 : Nat) : Int) = min (lv : Int) 1; omega
    · show (cntLe b [0] : Int) = min (lv : Int) (mz c ps 0 past b)
      rw [cntLe_cons, cntLe_nil, mz]
      by_cases h : 0 ≤ b
      · rw [if_pos h, if_neg (by omega)]; omega
      · rw [if_neg h, if_pos (by omega)]; omega
  | k + 1, past, s, R, F, hk => by
    have hl : (past.length : Int) < nDays c := by omega
    have okA := calA ok
    have hr := (fut_room okA F hl).1
    have hd : nDays c - (k : Nat) = (past.length : Int) + 1 := by omega
    obtain ⟨n, hn⟩ : ∃ n : Nat, roomP c past = (n : Nat) := ⟨(roomP c past).toNat, by omega⟩
    have hfl : (((followers c s ((past.length : Int) + 1)).length : Nat) : Int) = ((n + 1 : Nat) : Int) := by
      rw [followers_eq R hl, List.length_map, upN_len]; omega
    have e : lcK c ps lv (k + 1) s = costsAt (prA ps past) (followers c s ((past.length : Int) + 1)) (lcK c ps lv k) lv ((n + 1 : Nat) : Int) := by
      rw [lcK, hd, hfl]
    obtain ⟨a1, a2, a3⟩ := costs_is (fs := followers c s ((past.length : Int) + 1)) (lc := lcK c ps lv k) (ps := ps) (lv := lv) okA F hk (fun j h0 h1 => by
      rw [followers_eq R hl, getD_upN h0 (by omega)]
      exact lcK_is ok hpl hpr hlv (relS_step R h0) (fut_step okA F hl h0 h1) (by rw [snoc_len]; omega)) (n := n + 1) (by omega)
    rw [e]
    have hpos : ∀ i : Nat, i < n + 1 → ∀ j ∈ upN ((i : Nat) + 1), Fut c (past ++ [j]) ∧ ((past ++ [j]).length : Int) + k = nDays c := fun i hi j hj => by
      have hj := upN_mem.mp hj
      exact ⟨fut_step okA F hl hj.1 (by omega), by rw [snoc_len]; omega⟩
    refine ⟨a1, ?_, fun b => ?_⟩
    · rw [a2]
      congr 1
      refine Int.le_antisymm ?_ ?_
      · refine maxUp_le (by have := cntP_pos okA F hk; omega) fun i hi => ?_
        exact sum_up_le (by omega) (fun _ _ _ => Int.le_refl _) fun x h1 h2 => by
          have := cntP_pos okA (k := k) (fut_step okA F hl (x := x) h1 (by omega)) (by rw [snoc_len]; omega)
          omega
      · have := le_maxUp (f := fun J => ((upN (J + 1)).map fun j => cntP c k (past ++ [j])).sum) (n := n + 1) (i := n) (by omega)
        show ((upN (roomP c past + 1)).map fun j => cntP c k (past ++ [j])).sum ≤ _
        rw [hn]
        exact this
    · rw [a3]
      by_cases hb : b < 0
      · have hm := hpr _ (prA_mem (past := past) (ps := ps) (by rw [hpl]; unfold nDays at hl; omega))
        rw [mz_neg hb]
        have h1 : maxUp (fun J => ((upN (J + 1)).map fun j => mz c ps k (past ++ [j]) (b - paidI (prA ps past) J - (prA ps past).2.2 * j)).sum) (n + 1) ≤ 0 := maxUp_le (Int.le_refl _) fun i hi => by
          have : ((upN ((i : Nat) + 1)).map fun j => mz c ps k (past ++ [j]) (b - paidI (prA ps past) (i : Nat) - (prA ps past).2.2 * j)).sum = 0 := sum_zero fun j hj => mz_neg (by
            have h1 := paid_nonneg hm (J := (i : Nat)) (by omega)
            have h2 := Int.mul_nonneg hm.2.2 (upN_mem.mp hj).1
            omega)
          omega
        have h2 := le_maxUp (f := fun J => ((upN (J + 1)).map fun j => mz c ps k (past ++ [j]) (b - paidI (prA ps past) J - (prA ps past).2.2 * j)).sum) (n := n + 1) (i := 0) (by omega)
        have h3 : 0 ≤ ((upN (((0 : Nat) : Int) + 1)).map fun j => mz c ps k (past ++ [j]) (b - paidI (prA ps past) ((0 : Nat) : Int) - (prA ps past).2.2 * j)).sum := sum_nonneg fun j hj => mz_nonneg okA (hpos 0 (by omega) j hj).1 (hpos 0 (by omega) j hj).2
        omega
      · rw [mz_succ (by omega), hn, maxL_maxUp (n := n) fun i hi => sum_nonneg fun j hj => mz_nonneg okA (hpos i hi j hj).1 (hpos i hi j hj).2]
end BR

set_option Elab.async false
set_option linter.all false
set_option maxRecDepth 100000
set_option maxHeartbeats 1000000
/-! A7: how many states and entries there are. -/
namespace BR
open PD
theorem nodup_len {α : Type} [DecidableEq α] : ∀ {l m : List α}, l.Nodup → (∀ x ∈ l, x ∈ m) → l.length ≤ m.length
  | [], m, _, _ => Nat.zero_le _
  | a :: l, m, h, hs => by
    obtain ⟨h1, h2⟩ := List.nodup_cons.mp h
    have ha := hs a List.mem_cons_self
    have := nodup_len (l := l) (m := m.erase a) h2 fun x hx => (List.mem_erase_of_ne fun e => h1 (by rw [← e]; exact hx)).mpr (hs x (List.mem_cons_of_mem _ hx))
    rw [List.length_erase_of_mem ha] at this
    have : 0 < m.length := List.length_pos_of_mem ha
    rw [List.length_cons]
    omega
theorem addS_le : ∀ {ss acc : List State}, (ss.foldl addS acc).length ≤ acc.length + ss.length
  | [], acc => Nat.le_refl _
  | s :: ss, acc => by
    have h := addS_le (ss := ss) (acc := addS acc s)
    have g : (addS acc s).length ≤ acc.length + 1 := by
      unfold addS
      split
      · omega
      · rw [List.length_append]; exact Nat.le_refl _
    show (ss.foldl addS (addS acc s)).length ≤ _
    rw [List.length_cons]
    omega
theorem fm_le {α β : Type} {g : α → List β} {m : Nat} : ∀ {l : List α}, (∀ x ∈ l, (g x).length ≤ m) → (l.flatMap g).length ≤ m * l.length
  | [], _ => by simp
  | a :: l, h => by
    have h1 := h a List.mem_cons_self
    have h2 := fm_le (l := l) fun y hy => h y (List.mem_cons_of_mem _ hy)
    rw [List.flatMap_cons, List.length_append, List.length_cons, Nat.mul_succ]
    omega
theorem sts_step {c : Cal} (ok : CalOk c) {M : Nat} (hM : ∀ d, at1 (owned c) d ≤ (M : Nat)) {d : Nat} (hd : d < c.length) : (sts c (d + 1)).length ≤ (M + 1) * (sts c d).length := by
  refine Nat.le_trans (addS_le (ss := (sts c d).flatMap fun s => followers c s ((d : Nat) + 1)) (acc := [])) ?_
  rw [List.length_nil, Nat.zero_add]
  refine fm_le fun s hs => ?_
  obtain ⟨past, hp, R, F⟩ := sts_past ok (by omega) hs
  have hl : (past.length : Int) < nDays c := by unfold nDays; omega
  have := fut_room (calA ok) F hl
  have := hM ((past.length : Int) + 1)
  rw [← hp, followers_eq R hl, List.length_map, upN_len]
  omega
theorem sts_pow {c : Cal} (ok : CalOk c) {M : Nat} (hM : ∀ d, at1 (owned c) d ≤ (M : Nat)) : ∀ {d : Nat}, d ≤ c.length → (sts c d).length ≤ (M + 1) ^ d
  | 0, _ => Nat.le_refl _
  | d + 1, hd => by
    have h1 := sts_pow ok hM (d := d) (by omega)
    have h2 := sts_step ok hM (d := d) (by omega)
    have := Nat.mul_le_mul_left (M + 1) h1
    rw [Nat.pow_succ, Nat.mul_comm]
    omega
/-- behind the last day there is one state -/
theorem sts_end {c : Cal} (ok : CalOk c) : (sts c c.length).length ≤ 1 :=
  nodup_len (m := [[]]) (sts_nodup c _) fun s h => by
    obtain ⟨past, hp, R, F⟩ := sts_past ok (Nat.le_refl _) h
    cases s with
    | nil => simp
    | cons p l =>
      have := R.key p List.mem_cons_self
      unfold nDays at this
      omega
/-- before the last day only pieces that come back behind it are away -/
theorem sts_last {c : Cal} (ok : CalOk c) {M : Nat} (hM : ∀ d, at1 (owned c) d ≤ (M : Nat)) {d : Nat} (hd : d + 1 = c.length) : (sts c d).length ≤ M + 1 := by
  have h := nodup_len (m := [] :: (List.range M).map fun i => [(nDays c + 1, ((i : Nat) : Int) + 1)]) (sts_nodup c d) fun s h => by
    obtain ⟨past, hp, R, F⟩ := sts_past ok (by omega) h
    have hkey : ∀ p ∈ s, p.1 = nDays c + 1 := fun p hp' => by
      have := R.key p hp'
      unfold nDays at this ⊢
      omega
    match s with
    | [] => exact List.mem_cons_self
    | [p] =>
      refine List.mem_cons_of_mem _ (List.mem_map.mpr ⟨(p.2 - 1).toNat, ?_, ?_⟩)
      · have h1 := R.num p (by simp)
        have hg := R.gone (nDays c) (by unfold nDays; omega) (Int.le_refl _)
        rw [gone_eq] at hg
        have hk := hkey p (by simp)
        have : gl (nDays c) p = p.2 := by unfold gl; exact if_pos (by omega)
        simp only [List.map_cons, List.map_nil, List.sum_cons, List.sum_nil, this] at hg
        have := F.aw (nDays c) (by unfold nDays; omega) (Int.le_refl _)
        have := hM (nDays c)
        exact List.mem_range.mpr (by omega)
      · have h1 := R.num p (by simp)
        have hk := hkey p (by simp)
        obtain ⟨a, b⟩ := p
        have hk : a = nDays c + 1 := hk
        have h1 : 1 ≤ b := h1
        rw [hk]
        show [(nDays c + 1, (((b - 1).toNat : Nat) : Int) + 1)] = [(nDays c + 1, b)]
        rw [show (((b - 1).toNat : Nat) : Int) + 1 = b by omega]
    | p :: q :: l =>
      have h1 := hkey p (by simp)
      have h2 := hkey q (by simp)
      have := R.nd
      simp [h1, h2] at this
  rw [List.length_cons, List.length_map, List.length_range] at h
  exact h
/-! ### entries -/
theorem lev_bd {c : Cal} {ps : List Price} {b : Int} (hb : 0 ≤ b) (Bs : List Int) (h0 : b ∈ Bs) (hstep : ∀ (t : Nat), t < c.length → ∀ e ∈ lev c ps b t, e.2.2 ∈ Bs → ∀ s ∈ outE c ps e, ∀ e' ∈ s, e'.2.2 ∈ Bs) : ∀ {t : Nat}, t ≤ c.length → (∀ e ∈ lev c ps b t, e.2.2 ∈ Bs) ∧ (lev c ps b t).length ≤ (sts c t).length * Bs.length := fun {t} ht => by
  have h1 : ∀ {t : Nat}, t ≤ c.length → ∀ e ∈ lev c ps b t, e.2.2 ∈ Bs := fun {t} => by
    induction t with
    | zero => intro _ e he; rw [List.mem_singleton.mp he]; exact h0
    | succ t ih =>
      intro ht e he
      rcases mem_addG.mp he with z | z
      · cases z
      · obtain ⟨e0, g0, g1⟩ := List.mem_flatMap.mp z
        obtain ⟨s, hs, g2⟩ := List.mem_flatten.mp g1
        exact hstep t (by omega) e0 g0 (ih (by omega) e0 g0) s hs e g2
  refine ⟨h1 ht, ?_⟩
  have := nodup_len (m := (sts c t).flatMap fun s => Bs.map fun x => (((t : Nat) : Int) + 1, s, x)) (lev_nodup (c := c) (ps := ps) (b := b) t) fun e he => by
    obtain ⟨i1, i2, i3⟩ := lev_mem hb he
    refine List.mem_flatMap.mpr ⟨e.2.1, i2, List.mem_map.mpr ⟨e.2.2, h1 ht e he, ?_⟩⟩
    rw [← i1]
  refine Nat.le_trans this ?_
  have h2 := fm_le (g := fun s => Bs.map fun x => (((t : Nat) : Int) + 1, s, x)) (m := Bs.length) (l := sts c t) fun s _ => by rw [List.length_map]; exact Nat.le_refl _
  rw [Nat.mul_comm]
  exact h2
theorem levs_sum {c : Cal} {ps : List Price} {b : Int} {f : Nat → Nat} : ∀ {n : Nat}, (∀ t, t ≤ n → (lev c ps b t).length ≤ f t) → (levs c ps b n).length ≤ ((List.range (n + 1)).map f).sum
  | 0, h => by
    have := h 0 (Nat.le_refl _)
    simpa [levs] using this
  | n + 1, h => by
    have h1 := levs_sum (n := n) fun t ht => h t (by omega)
    have h2 := h (n + 1) (Nat.le_refl _)
    show (levs c ps b n ++ lev c ps b (n + 1)).length ≤ _
    rw [List.length_append, List.range_succ, List.map_append, List.sum_append]
    simp only [List.map_cons, List.map_nil, List.sum_cons, List.sum_nil]
    omega
/-- the budgets that occur: multiples, and what is left over -/
def budgets (f r b : Int) : List Int := (upN (b + 1)).map fun x => f * x + r
theorem budgets_len (f r : Int) {b : Int} (hb : 0 ≤ b) : ((budgets f r b).length : Int) = b + 1 := by unfold budgets; rw [List.length_map, upN_len]; omega
theorem out_budget {c : Cal} {ps : List Price} {e e' : Ent} {s : List Ent} (hs : s ∈ outE c ps e) (h : e' ∈ s) : ∃ J j : Int, 0 ≤ j ∧ j ≤ J ∧ e'.2.2 = e.2.2 - paidI (atP ps e.1) J - (atP ps e.1).2.2 * j ∧ 0 ≤ e'.2.2 := by
  have h3 := (out_mem hs h).2.2
  unfold outE branchesL at hs
  obtain ⟨u, hu, rfl⟩ := List.mem_map.mp hs
  have hu := upTo_mem hu
  unfold branchU at h
  obtain ⟨h1, h2⟩ := List.mem_filter.mp h
  obtain ⟨n, hn, rfl⟩ := List.mem_map.mp h1
  have hn := upTo_mem hn
  exact ⟨u, n, by omega, by omega, rfl, h3⟩
theorem atP_scale {f : Int} {ps : List Price} {d : Int} : atP (scaleP f ps) d = (f * (atP ps d).1, f * (atP ps d).2.1, f * (atP ps d).2.2) := by
  unfold atP scaleP
  rw [List.getD_eq_getElem?_getD, List.getD_eq_getElem?_getD, List.getElem?_map]
  cases ps[(d - 1).toNat]? with
  | none => simp
  | some p => rfl
theorem atP_ok {ps : List Price} (h : PrOk ps) (d : Int) : 0 ≤ (atP ps d).1 ∧ 0 ≤ (atP ps d).2.1 ∧ 0 ≤ (atP ps d).2.2 := by
  unfold atP
  rw [List.getD_eq_getElem?_getD]
  cases q : ps[(d - 1).toNat]? with
  | none => simp
  | some p => exact h p (List.mem_of_getElem? q)
theorem scale_step {f r b : Int} (hf : 1 ≤ f) (hr0 : 0 ≤ r) (hr1 : r < f) {c : Cal} {ps : List Price} (hp : PrOk ps) {e : Ent} (he : e.2.2 ∈ budgets f r b) {s : List Ent} (hs : s ∈ outE c (scaleP f ps) e) {e' : Ent} (h : e' ∈ s) : e'.2.2 ∈ budgets f r b := by
  obtain ⟨J, j, j0, j1, eq, h0⟩ := out_budget hs h
  unfold budgets at he ⊢
  obtain ⟨x, hx, ex⟩ := List.mem_map.mp he
  have hx := upN_mem.mp hx
  have hok := atP_ok hp e.1
  have p1 := paid_nonneg hok (J := J) (by omega)
  have p2 := Int.mul_nonneg hok.2.2 j0
  rw [atP_scale] at eq
  have hpay : paidI (f * (atP ps e.1).1, f * (atP ps e.1).2.1, f * (atP ps e.1).2.2) J = f * paidI (atP ps e.1) J := by
    unfold paidI
    rw [Int.mul_add, ← Int.mul_assoc, ← Int.mul_assoc]
  rw [hpay] at eq
  have eq2 : e'.2.2 = f * (x - paidI (atP ps e.1) J - (atP ps e.1).2.2 * j) + r := by
    rw [eq, ← ex, Int.mul_sub, Int.mul_sub, ← Int.mul_assoc]
    show f * x + r - _ - f * (atP ps e.1).2.2 * j = _
    omega
  refine List.mem_map.mpr ⟨x - paidI (atP ps e.1) J - (atP ps e.1).2.2 * j, upN_mem.mpr ⟨?_, by omega⟩, eq2.symm⟩
  generalize x - paidI (atP ps e.1) J - (atP ps e.1).2.2 * j = y at eq2
  rcases Int.lt_or_le y 0 with q | q
  · have : f * y ≤ f * (-1) := Int.mul_le_mul_of_nonneg_left (by omega) (by omega)
    omega
  · exact q
/-- entries with multiplied prices -/
theorem ent_scale {c : Cal} (tab : TabOk c) {ps : List Price} (hl : ps.length = c.length) (hp : PrOk ps) {f r b : Int} (hf : 1 ≤ f) (hr0 : 0 ≤ r) (hr1 : r < f) (hb : 0 ≤ b) {S : Nat} (hS : ((List.range (c.length + 1)).map fun t => (sts c t).length).sum ≤ S) (h5 : (S : Int) * (b + 1) ≤ 5000) : EntOk c (scaleP f ps) (f * b + r) where
  tab := tab
  len := by unfold scaleP; rw [List.length_map]; exact hl
  b0 := by have := Int.mul_nonneg (show 0 ≤ f by omega) hb; omega
  size := by
    have hbb := budgets_len f r hb
    have h1 := levs_sum (c := c) (ps := scaleP f ps) (b := f * b + r) (f := fun t => (sts c t).length * (budgets f r b).length) (n := c.length) fun t ht =>
      (lev_bd (by have := Int.mul_nonneg (show 0 ≤ f by omega) hb; omega) (budgets f r b) (List.mem_map.mpr ⟨b, upN_mem.mpr ⟨hb, by omega⟩, rfl⟩) (fun t _ e _ he s hs e' h' => scale_step hf hr0 hr1 hp he hs h') ht).2
    have h2 : ∀ l : List Nat, (l.map fun t => (sts c t).length * (budgets f r b).length).sum = (l.map fun t => (sts c t).length).sum * (budgets f r b).length := fun l => by
      induction l with
      | nil => simp
      | cons a l ih => rw [List.map_cons, List.sum_cons, ih, List.map_cons, List.sum_cons, Nat.add_mul]
    rw [h2] at h1
    have h3 := Nat.mul_le_mul_right (budgets f r b).length hS
    have h4 : ((S * (budgets f r b).length : Nat) : Int) = (S : Int) * (b + 1) := by rw [Int.natCast_mul, hbb]
    omega
theorem scale_one (ps : List Price) : scaleP 1 ps = ps := by
  unfold scaleP
  conv => rhs; rw [← List.map_id ps]
  exact List.map_congr_left fun p _ => by simp
theorem ent_plain {c : Cal} (tab : TabOk c) {ps : List Price} (hl : ps.length = c.length) (hp : PrOk ps) {b : Int} (hb : 0 ≤ b) {S : Nat} (hS : ((List.range (c.length + 1)).map fun t => (sts c t).length).sum ≤ S) (h5 : (S : Int) * (b + 1) ≤ 5000) : EntOk c ps b := by
  have := ent_scale tab hl hp (f := 1) (r := 0) (by decide) (by decide) (by decide) hb hS h5
  rw [scale_one, Int.one_mul, Int.add_zero] at this
  exact this
/-- entries with prices for breaks alone -/
theorem dear_lev {c : Cal} (ok : CalOk c) {M : Nat} (hM : ∀ d, at1 (owned c) d ≤ (M : Nat)) {q : List Int} {b : Int} (hb : 0 ≤ b) : ∀ {t : Nat}, t ≤ c.length → (lev c (dearP q) b t).length ≤ (M + 1) ^ t
  | 0, _ => Nat.le_refl _
  | t + 1, ht => by
    have ih := dear_lev ok hM (q := q) hb (t := t) (by omega)
    have hpr : ∀ d J : Int, paidI (atP (dearP q) d) J = 0 := fun d J => by
      unfold atP dearP
      rw [List.getD_eq_getElem?_getD, List.getElem?_map]
      cases q[(d - 1).toNat]? with
      | none => simp [paidI]
      | some x => simp [paidI]
    have := nodup_len (m := (lev c (dearP q) b t).flatMap fun e => (upN ((M : Nat) + 1)).map fun j => (e.1 + 1, (followers c e.2.1 e.1).getD j.toNat [], e.2.2 - (atP (dearP q) e.1).2.2 * j)) (lev_nodup (c := c) (ps := dearP q) (b := b) (t + 1)) fun e' he' => by
      rcases mem_addG.mp he' with z | z
      · cases z
      · obtain ⟨e, g0, g1⟩ := List.mem_flatMap.mp z
        obtain ⟨s, hs, g2⟩ := List.mem_flatten.mp g1
        refine List.mem_flatMap.mpr ⟨e, g0, ?_⟩
        obtain ⟨i1, i2, i3⟩ := lev_mem hb g0
        obtain ⟨past, hp, R, F⟩ := sts_past ok (by omega) i2
        have hl : (past.length : Int) < nDays c := by unfold nDays; omega
        have hroom := fut_room (calA ok) F hl
        have hMM := hM ((past.length : Int) + 1)
        unfold outE branchesL at hs
        obtain ⟨u, hu, rfl⟩ := List.mem_map.mp hs
        have hu := upTo_mem hu
        unfold branchU at g2
        obtain ⟨k1, k2⟩ := List.mem_filter.mp g2
        obtain ⟨n, hn, rfl⟩ := List.mem_map.mp k1
        have hn := upTo_mem hn
        have hfl : (followers c e.2.1 e.1).length ≤ M + 1 := by
          rw [i1, ← hp, followers_eq R hl, List.length_map, upN_len]; omega
        refine List.mem_map.mpr ⟨n, upN_mem.mpr ⟨by omega, by omega⟩, ?_⟩
        rw [hpr, Int.sub_zero]
    have h2 := fm_le (g := fun e : Ent => (upN ((M : Nat) + 1)).map fun j => ((e.1 + 1, (followers c e.2.1 e.1).getD j.toNat [], e.2.2 - (atP (dearP q) e.1).2.2 * j) : Ent)) (m := M + 1) (l := lev c (dearP q) b t) fun e _ => by rw [List.length_map, upN_len]; omega
    have h3 := Nat.mul_le_mul_left (M + 1) ih
    rw [Nat.pow_succ, Nat.mul_comm]
    omega
end BR

set_option Elab.async false
set_option linter.all false
set_option maxRecDepth 100000
set_option maxHeartbeats 1000000
/-! A8: the facts of drawn calendars. -/
namespace BR
open PD
theorem drawn_in {c : Cal} (h : Drawn 4 3 c) : CalIn c := ⟨by have := h.len; omega, fun i p hp => let ⟨a, b, d⟩ := h.day i p hp; ⟨a, by omega, d⟩⟩
theorem drawn_own {c : Cal} (h : Drawn 4 3 c) (d : Int) : at1 (owned c) d ≤ ((3 : Nat) : Int) := by
  unfold at1 owned
  rw [List.getD_eq_getElem?_getD, List.getElem?_map]
  cases q : c[(d - 1).toNat]? with
  | none => simp
  | some p => have := (h.day _ p q).2.1; show p.1 ≤ _; omega
theorem drawn_tab {c : Cal} (h : Drawn 4 3 c) : TabOk c := tabOk (drawn_in h).ok fun d hd => by
  have h1 := sts_pow (drawn_in h).ok (drawn_own h) hd
  have h2 : (3 + 1) ^ d ≤ (3 + 1) ^ 4 := Nat.pow_le_pow_right (by decide) (by have := h.len; omega)
  have h3 : (3 + 1) ^ 4 = 256 := by decide
  omega
theorem drawn_sum {c : Cal} (h : Drawn 4 3 c) : ((List.range (c.length + 1)).map fun t => (sts c t).length).sum ≤ 26 := by
  have ok := (drawn_in h).ok
  have hM := drawn_own h
  have hl := h.len
  have h0 : (sts c 0).length = 1 := rfl
  have he := sts_end ok
  have hs := fun d (hd : d + 1 = c.length) => sts_last ok hM hd
  have hp := fun d (hd : d ≤ c.length) => sts_pow ok hM hd
  have hc : c.length = 0 ∨ c.length = 1 ∨ c.length = 2 ∨ c.length = 3 ∨ c.length = 4 := by omega
  rcases hc with e | e | e | e | e <;> rw [e] at he hs hp ⊢ <;> simp only [List.range_succ, List.range_zero, List.nil_append, List.map_append, List.map_cons, List.map_nil, List.sum_append, List.sum_cons, List.sum_nil, List.append_assoc, List.cons_append]
  · omega
  · omega
  · have := hs 1 rfl; omega
  · have h1 := hp 1 (by decide)
    have := hs 2 rfl
    have e1 : (3 + 1) ^ 1 = 4 := by decide
    omega
  · have h1 := hp 1 (by decide)
    have h2 := hp 2 (by decide)
    have := hs 3 rfl
    have e1 : (3 + 1) ^ 1 = 4 := by decide
    have e2 : (3 + 1) ^ 2 = 16 := by decide
    omega
theorem pr_of {n : Nat} {m : Int} {ps : List Price} (h : PricesB n m ps) : PrOk ps := h.ok
theorem base_in {c : Cal} (h : Drawn 4 3 c) {ps : List Price} (hp : PricesB c.length 6 ps) {b : Int} (h0 : 0 ≤ b) (h1 : b ≤ 168) : LevIn c ps b :=
  ⟨drawn_in h, hp.ok, ent_plain (drawn_tab h) hp.len hp.ok h0 (drawn_sum h) (by omega)⟩
theorem lev_val {c : Cal} (ok : CalOk c) {ps : List Price} {b : Int} (hb : 0 ≤ b) : levW c ps b = mz c ps c.length [] b := levW_eq ok hb
theorem n_len (c : Cal) : (([] : List Int).length : Int) + (c.length : Nat) = nDays c := by unfold nDays; simp
theorem fact_cnt {c : Cal} (h : Drawn 4 3 c) : cnt c c.length [] = (rowsN c c.length).length := by
  have ok := (drawn_in h).ok
  rw [cnt_eq ok (relS_nil c) (fut_nil (calA ok)) (n_len c), rows_count (calA ok)]
theorem fact_rows {c : Cal} (h : Drawn 4 3 c) : rowsN c c.length ≠ [] ∧ ∀ row ∈ rowsN c c.length, ∀ x ∈ row, 0 ≤ x ∧ x ≤ 12 := by
  have ok := (drawn_in h).ok
  refine ⟨fun z => ?_, fun row hr => rows_bd (calA ok) (fun d => by have := drawn_own h d; omega) hr⟩
  have h1 := rows_count (calA ok)
  have h2 := cntP_pos (calA ok) (fut_nil (calA ok)) (n_len c)
  rw [z] at h1
  simp at h1
  omega
theorem dear_ent {c : Cal} (h : Drawn 4 3 c) {q : List Int} (hq : q.length = c.length) {b : Int} (hb : 0 ≤ b) : EntOk c (dearP q) b where
  tab := drawn_tab h
  len := by unfold dearP; rw [List.length_map]; exact hq
  b0 := hb
  size := by
    have h1 := levs_sum (c := c) (ps := dearP q) (b := b) (f := fun t => (3 + 1) ^ t) (n := c.length) fun t ht => dear_lev (drawn_in h).ok (drawn_own h) hb ht
    refine Nat.le_trans h1 ?_
    have hl := h.len
    have hc : c.length = 0 ∨ c.length = 1 ∨ c.length = 2 ∨ c.length = 3 ∨ c.length = 4 := by omega
    rcases hc with e | e | e | e | e <;> rw [e] <;> decide
theorem dear_pr {q : List Int} (h0 : ∀ x ∈ q, 0 ≤ x) : PrOk (dearP q) := fun p hp => by
  unfold dearP at hp
  obtain ⟨x, hx, e⟩ := List.mem_map.mp hp
  rw [← e]
  exact ⟨Int.le_refl _, Int.le_refl _, h0 x hx⟩
theorem fact_dear {c : Cal} (h : Drawn 4 3 c) {q : List Int} (hq : q.length = c.length) (h0 : ∀ x ∈ q, 0 ≤ x) {b : Int} (hb : 0 ≤ b) : LevIn c (dearP q) b ∧ levW c (dearP q) b = ((sumsL c q).filter fun s => decide (s ≤ b)).length := by
  have ok := (drawn_in h).ok
  refine ⟨⟨drawn_in h, dear_pr h0, dear_ent h hq hb⟩, ?_⟩
  rw [lev_val ok hb, dear_count (calA ok) hq h0 hb]
theorem free_dear (c : Cal) : freeP c = dearP (List.replicate c.length 0) := by unfold freeP dearP; rw [List.map_replicate]
theorem cost_zero (n : Nat) (row : List Int) : costRow (List.replicate n 0) row = 0 := sum_zero fun p hp => by
  have := (List.of_mem_zip hp).2
  rw [(List.mem_replicate.mp this).2, Int.mul_zero]
theorem fact_free {c : Cal} (h : Drawn 4 3 c) {b : Int} (hb : 0 ≤ b) : LevIn c (freeP c) b ∧ levW c (freeP c) b = (rowsN c c.length).length := by
  have := fact_dear h (q := List.replicate c.length 0) (List.length_replicate) (fun x hx => by rw [(List.mem_replicate.mp hx).2]; exact Int.le_refl _) hb
  rw [free_dear]
  refine ⟨this.1, ?_⟩
  rw [this.2]
  unfold sumsL
  rw [List.filter_eq_self.mpr fun s hs => ?_, List.length_map]
  obtain ⟨row, _, e⟩ := List.mem_map.mp hs
  rw [← e, cost_zero]
  exact decide_eq_true hb
theorem price_at {n : Nat} {ps : List Price} {m : Int} (h : PricesB n m ps) {past : List Int} (hl : past.length < n) : PriceB m (prA ps past) := h.bd _ (prA_mem (by rw [h.len]; exact hl))
theorem leP_refl (p : Price) : LeP p p := ⟨Int.le_refl _, Int.le_refl _, Int.le_refl _⟩
theorem fact_mono {c : Cal} (h : Drawn 4 3 c) {ps : List Price} {b : Int} (hb : 0 ≤ b) : levW c ps b ≤ levW c ps (b + 1) := by
  have ok := (drawn_in h).ok
  rw [lev_val ok hb, lev_val ok (by omega)]
  exact mz_mono (calA ok) (calA ok) rfl (fun _ _ _ => Int.le_refl _) (fun _ F => F) (fun _ _ => leP_refl _) (fut_nil (calA ok)) (n_len c) (by omega)
theorem fact_less {c : Cal} (h : Drawn 4 3 c) {ps ps' : List Price} (hp : ps.length = c.length) (hle : LessP ps' ps) {b : Int} (hb : 0 ≤ b) : levW c ps b ≤ levW c ps' b := by
  have ok := (drawn_in h).ok
  rw [lev_val ok hb, lev_val ok hb]
  refine mz_mono (calA ok) (calA ok) rfl (fun _ _ _ => Int.le_refl _) (fun _ F => F) (fun past hl => ?_) (fut_nil (calA ok)) (n_len c) (Int.le_refl b)
  have h1 : past.length < ps.length := by rw [hp]; unfold nDays at hl; omega
  have h2 : past.length < ps'.length := by rw [hle.len]; exact h1
  unfold prA atP
  rw [List.getD_eq_getElem?_getD, List.getD_eq_getElem?_getD, show ((past.length : Int) + 1 - 1).toNat = past.length by omega]
  have g := hle.le past.length _ _ (List.getElem?_eq_getElem h1) (List.getElem?_eq_getElem h2)
  rw [List.getElem?_eq_getElem h1, List.getElem?_eq_getElem h2]
  exact g
theorem fact_scale {c : Cal} (h : Drawn 4 3 c) {ps : List Price} (hp : PricesB c.length 6 ps) {b f r : Int} (h0 : 0 ≤ b) (h1 : b ≤ 12) (hf : 2 ≤ f) (r0 : 0 ≤ r) (r1 : r < f) : LevIn c (scaleP f ps) (f * b + r) ∧ levW c (scaleP f ps) (f * b + r) = levW c ps b := by
  have ok := (drawn_in h).ok
  have hfb := Int.mul_nonneg (show 0 ≤ f by omega) h0
  refine ⟨⟨drawn_in h, fun p hpp => ?_, ent_scale (drawn_tab h) hp.len hp.ok (by omega) r0 r1 h0 (drawn_sum h) (by omega)⟩, ?_⟩
  · unfold scaleP at hpp
    obtain ⟨q, hq, e⟩ := List.mem_map.mp hpp
    have := hp.ok q hq
    rw [← e]
    exact ⟨Int.mul_nonneg (by omega) this.1, Int.mul_nonneg (by omega) this.2.1, Int.mul_nonneg (by omega) this.2.2⟩
  · rw [lev_val ok (by omega), lev_val ok h0]
    exact mz_scale r0 r1 (n_len c) (by unfold nDays; rw [hp.len])
/-! ### an additional piece, a further day -/
theorem plus1_in {c : Cal} (h : Drawn 4 3 c) : CalIn (plus1 c) := ⟨by rw [plus1_len]; have := h.len; omega, fun i p hp => by
  unfold plus1 at hp
  rw [List.getElem?_map] at hp
  cases q : c[i]? with
  | none => rw [q] at hp; cases hp
  | some p0 =>
    rw [q] at hp
    have hp : (p0.1 + 1, p0.2) = p := by simpa using hp
    obtain ⟨a, b, d⟩ := h.day i p0 q
    rw [← hp]
    exact ⟨by show 0 ≤ p0.1 + 1; omega, by show p0.1 + 1 ≤ 12; omega, d⟩⟩
theorem plus1_own4 {c : Cal} (h : Drawn 4 3 c) (d : Int) : at1 (owned (plus1 c)) d ≤ ((4 : Nat) : Int) := by
  unfold at1 owned plus1
  rw [List.map_map, List.getD_eq_getElem?_getD, List.getElem?_map]
  cases q : c[(d - 1).toNat]? with
  | none => simp
  | some p => have := (h.day _ p q).2.1; show p.1 + 1 ≤ _; omega
theorem plus1_sum {c : Cal} (h : Drawn 4 3 c) : ((List.range ((plus1 c).length + 1)).map fun t => (sts (plus1 c) t).length).sum ≤ 157 := by
  have ok := (plus1_in h).ok
  have hM := plus1_own4 h
  have hl := h.len
  have h0 : (sts (plus1 c) 0).length = 1 := rfl
  have he := sts_end ok
  have hp := fun d (hd : d ≤ (plus1 c).length) => sts_pow ok hM hd
  have e1 : (4 + 1) ^ 1 = 5 := by decide
  have e2 : (4 + 1) ^ 2 = 25 := by decide
  have e3 : (4 + 1) ^ 3 = 125 := by decide
  rw [plus1_len] at he hp ⊢
  have hc : c.length = 0 ∨ c.length = 1 ∨ c.length = 2 ∨ c.length = 3 ∨ c.length = 4 := by omega
  rcases hc with e | e | e | e | e <;> rw [e] at he hp ⊢ <;> simp only [List.range_succ, List.range_zero, List.nil_append, List.map_append, List.map_cons, List.map_nil, List.sum_append, List.sum_cons, List.sum_nil, List.append_assoc, List.cons_append]
  · omega
  · omega
  · have h1 := hp 1 (by decide); omega
  · have h1 := hp 1 (by decide)
    have h2 := hp 2 (by decide)
    omega
  · have h1 := hp 1 (by decide)
    have h2 := hp 2 (by decide)
    have h3 := hp 3 (by decide)
    omega
theorem plus1_tab {c : Cal} (h : Drawn 4 3 c) : TabOk (plus1 c) := tabOk (plus1_in h).ok fun d hd => by
  by_cases e : d = (plus1 c).length
  · have := sts_end (plus1_in h).ok
    rw [← e] at this
    omega
  · have h1 := sts_pow (plus1_in h).ok (plus1_own4 h) hd
    rw [plus1_len] at hd e
    have h2 : (4 + 1) ^ d ≤ (4 + 1) ^ 3 := Nat.pow_le_pow_right (by decide) (by have := h.len; omega)
    have h3 : (4 + 1) ^ 3 = 125 := by decide
    omega
theorem fact_more {c : Cal} (h : Drawn 4 3 c) {ps : List Price} (hp : PricesB c.length 6 ps) {b : Int} (h0 : 0 ≤ b) (h1 : b ≤ 12) : LevIn (plus1 c) ps b ∧ levW c ps b ≤ levW (plus1 c) ps b := by
  have ok := (drawn_in h).ok
  have ok' := (plus1_in h).ok
  refine ⟨⟨plus1_in h, hp.ok, ent_plain (plus1_tab h) (by rw [plus1_len]; exact hp.len) hp.ok h0 (plus1_sum h) (by omega)⟩, ?_⟩
  rw [lev_val ok h0, lev_val ok' h0, plus1_len]
  exact more_mono (calA ok) (calA ok')
theorem lastO_bd {c : Cal} (h : Drawn 4 3 c) : 0 ≤ lastO c ∧ lastO c ≤ 3 := by
  unfold lastO
  cases q : c.getLast? with
  | none => simp
  | some p =>
    obtain ⟨i, hi⟩ := List.getElem?_of_mem (List.mem_of_getLast? q)
    have := h.day i p hi
    exact ⟨this.1, this.2.1⟩
theorem idle_in {c : Cal} (h : Drawn 4 3 c) : CalIn (idleC c) := ⟨by rw [idle_len]; have := h.len; omega, fun i p hp => by
  unfold idleC at hp
  rcases Nat.lt_or_ge i c.length with q | q
  · rw [List.getElem?_append_left q] at hp
    exact (drawn_in h).day i p hp
  · rw [List.getElem?_append_right q] at hp
    have := (List.getElem?_eq_some_iff.mp hp).1
    have e : i - c.length = 0 := by simp at this; omega
    rw [e] at hp
    have hp : (lastO c, none) = p := by simpa using hp
    have := lastO_bd h
    rw [← hp]
    exact ⟨this.1, by show lastO c ≤ 12; omega, fun b z => nomatch z⟩⟩
theorem idle_own3 {c : Cal} (h : Drawn 4 3 c) (d : Int) : at1 (owned (idleC c)) d ≤ ((3 : Nat) : Int) := by
  unfold at1 owned idleC
  rw [List.getD_eq_getElem?_getD, List.getElem?_map]
  cases q : (c ++ [(lastO c, none)])[(d - 1).toNat]? with
  | none => simp
  | some p =>
    rcases List.mem_append.mp (List.mem_of_getElem? q) with z | z
    · obtain ⟨i, hi⟩ := List.getElem?_of_mem z
      have := (h.day i p hi).2.1
      show p.1 ≤ _
      omega
    · rw [List.mem_singleton.mp z]
      have := (lastO_bd h).2
      show lastO c ≤ _
      omega
theorem idle_sum {c : Cal} (h : Drawn 4 3 c) : ((List.range ((idleC c).length + 1)).map fun t => (sts (idleC c) t).length).sum ≤ 342 := by
  have ok := (idle_in h).ok
  have hM := idle_own3 h
  have hl := h.len
  have h0 : (sts (idleC c) 0).length = 1 := rfl
  have he := sts_end ok
  have hp := fun d (hd : d ≤ (idleC c).length) => sts_pow ok hM hd
  have e1 : (3 + 1) ^ 1 = 4 := by decide
  have e2 : (3 + 1) ^ 2 = 16 := by decide
  have e3 : (3 + 1) ^ 3 = 64 := by decide
  have e4 : (3 + 1) ^ 4 = 256 := by decide
  rw [idle_len] at he hp ⊢
  have hc : c.length = 0 ∨ c.length = 1 ∨ c.length = 2 ∨ c.length = 3 ∨ c.length = 4 := by omega
  rcases hc with e | e | e | e | e <;> rw [e] at he hp ⊢ <;> simp only [List.range_succ, List.range_zero, List.nil_append, List.map_append, List.map_cons, List.map_nil, List.sum_append, List.sum_cons, List.sum_nil, List.append_assoc, List.cons_append, Nat.zero_add, Nat.reduceAdd] at he ⊢
  · omega
  · have h1 := hp 1 (by decide); omega
  · have h1 := hp 1 (by decide)
    have h2 := hp 2 (by decide)
    omega
  · have h1 := hp 1 (by decide)
    have h2 := hp 2 (by decide)
    have h3 := hp 3 (by decide)
    omega
  · have h1 := hp 1 (by decide)
    have h2 := hp 2 (by decide)
    have h3 := hp 3 (by decide)
    have h4 := hp 4 (by decide)
    omega
theorem idle_tab {c : Cal} (h : Drawn 4 3 c) : TabOk (idleC c) := tabOk (idle_in h).ok fun d hd => by
  by_cases e : d = (idleC c).length
  · have := sts_end (idle_in h).ok
    rw [← e] at this
    omega
  · have h1 := sts_pow (idle_in h).ok (idle_own3 h) hd
    rw [idle_len] at hd e
    have h2 : (3 + 1) ^ d ≤ (3 + 1) ^ 4 := Nat.pow_le_pow_right (by decide) (by have := h.len; omega)
    have h3 : (3 + 1) ^ 4 = 256 := by decide
    omega
theorem fact_idle {c : Cal} (h : Drawn 4 3 c) {ps : List Price} (hp : PricesB c.length 6 ps) {b : Int} (h0 : 0 ≤ b) (h1 : b ≤ 12) : LevIn (idleC c) (ps ++ [(b + 1, 0, 0)]) b ∧ levW (idleC c) (ps ++ [(b + 1, 0, 0)]) b = levW c ps b := by
  have ok := (drawn_in h).ok
  have ok' := (idle_in h).ok
  have hpr : PrOk (ps ++ [(b + 1, 0, 0)]) := fun p hpp => by
    rcases List.mem_append.mp hpp with z | z
    · exact hp.ok p z
    · rw [List.mem_singleton.mp z]; exact ⟨by show 0 ≤ b + 1; omega, Int.le_refl _, Int.le_refl _⟩
  refine ⟨⟨idle_in h, hpr, ent_plain (idle_tab h) (by rw [idle_len, List.length_append, hp.len]; rfl) hpr h0 (idle_sum h) (by omega)⟩, ?_⟩
  rw [lev_val ok h0, lev_val ok' h0, idle_len]
  exact mz_idle (calA ok) (calA ok') hp.len hp.ok (fut_nil (calA ok)) (fut_nil (calA ok')) (n_len c) (Int.le_refl b)
end BR

set_option Elab.async false
set_option linter.all false
set_option maxRecDepth 100000
set_option maxHeartbeats 1000000
/-! A9: the facts of least worst costs; all the facts at once. -/
namespace BR
open PD
theorem paid_le {p : Price} {J : Int} (h : PriceB 6 p) (h0 : 0 ≤ J) (h1 : J ≤ 3) : paidI p J ≤ 24 ∧ ∀ j : Int, 0 ≤ j → j ≤ J → p.2.2 * j ≤ 18 := by
  obtain ⟨⟨p1, p2⟩, ⟨p3, p4⟩, p5, p6⟩ := h
  unfold paidI
  constructor
  · have hJ : J = 0 ∨ J = 1 ∨ J = 2 ∨ J = 3 := by omega
    rcases hJ with e | e | e | e <;> subst e <;> simp <;> omega
  · intro j j0 j1
    have hj : j = 0 ∨ j = 1 ∨ j = 2 ∨ j = 3 := by omega
    rcases hj with e | e | e | e <;> subst e <;> omega
/-- with enough there is no worst row left out -/
theorem enough {c : Cal} (h : Drawn 4 3 c) {ps : List Price} (hp : PricesB c.length 6 ps) : ∀ {k : Nat} {past : List Int} {b : Int}, Fut c past → (past.length : Int) + k = nDays c → 42 * (k : Int) ≤ b → cntP c k past ≤ mz c ps k past b
  | 0, past, b, F, hk, hb => by rw [mz_zero (by omega)]; exact Int.le_refl _
  | k + 1, past, b, F, hk, hb => by
    have ok := calA (drawn_in h).ok
    have hl : (past.length : Int) < nDays c := by omega
    obtain ⟨r0, r1⟩ := fut_room ok F hl
    have r3 := drawn_own h ((past.length : Int) + 1)
    have hq := price_at hp (past := past) (by unfold nDays at hl; omega)
    obtain ⟨q1, q2⟩ := paid_le hq r0 (by omega)
    rw [mz_succ (by omega)]
    refine Int.le_trans ?_ (le_maxL (List.mem_map.mpr ⟨roomP c past, upN_mem.mpr ⟨r0, by omega⟩, rfl⟩))
    show ((upN (roomP c past + 1)).map fun j => cntP c k (past ++ [j])).sum ≤ _
    refine sum_le_sum fun j hj => ?_
    have hj := upN_mem.mp hj
    have q3 := q2 j hj.1 (by omega)
    exact enough h hp (fut_step ok F hl hj.1 (by omega)) (by rw [snoc_len]; omega) (by push_cast at hb; omega)
structure CwAt (c : Cal) (ps : List Price) (m : Nat) : Prop where
  len : m ≤ (lcK c ps m c.length []).length
  iff : ∀ b, cwCost c ps m ≤ b ↔ (m : Int) ≤ mz c ps c.length [] b
theorem cw_at {c : Cal} (ok : CalOk c) {ps : List Price} (hpl : ps.length = c.length) (hpr : PrOk ps) {m : Nat} (h1 : 1 ≤ m) (h2 : (m : Int) ≤ cntP c c.length []) : CwAt c ps m := by
  have I := lcK_is ok hpl hpr h1 (relS_nil c) (fut_nil (calA ok)) (n_len c)
  have hl : (lcK c ps m c.length []).length = m := by have := I.len; omega
  refine ⟨by omega, fun b => ?_⟩
  have hc : cwCost c ps m = (lcK c ps m c.length [])[m - 1]'(by omega) := by
    unfold cwCost
    rw [show ((m : Int) - 1).toNat = m - 1 by omega, List.getD_eq_getElem?_getD, List.getElem?_eq_getElem (by omega)]; rfl
  rw [hc, asc_get I.asc (by omega) b]
  have := I.cnt b
  omega
theorem CwAt.nonneg {c : Cal} {ps : List Price} {m : Nat} (h : CwAt c ps m) (h1 : 1 ≤ m) : 0 ≤ cwCost c ps m := by
  rcases Int.lt_or_le (cwCost c ps m) 0 with g | g
  · have := (h.iff (-1)).mp (by omega)
    rw [mz_neg (by decide)] at this
    omega
  · exact g
theorem CwAt.is {c : Cal} {ps : List Price} {m : Nat} (h : CwAt c ps m) (h1 : 1 ≤ m) {x : Int} (h0 : 0 ≤ x) (hx : (m : Int) ≤ mz c ps c.length [] x) (hy : ∀ b, 0 ≤ b → (m : Int) ≤ mz c ps c.length [] b → x ≤ b) : cwCost c ps m = x := by
  have a := (h.iff x).mpr hx
  have n := h.nonneg h1
  have b := hy _ n ((h.iff _).mp (Int.le_refl _))
  omega
theorem fact_steps {c : Cal} {ps : List Price} {m : Nat} (h : Drawn 4 3 c) (hp : PricesB c.length 6 ps) (h1 : 1 ≤ m) (h2 : m ≤ 200) (hm : m ≤ (rowsN c c.length).length) :
    CwIn c ps m ∧ 0 ≤ cwCost c ps m ∧ cwCost c ps m ≤ 168 ∧ (m : Int) ≤ levW c ps (cwCost c ps m) ∧ (0 < cwCost c ps m → levW c ps (cwCost c ps m - 1) < (m : Int)) := by
  have ok := (drawn_in h).ok
  have hn := rows_count (calA ok)
  have A := cw_at ok hp.len hp.ok h1 (by omega)
  have n := A.nonneg h1
  refine ⟨⟨drawn_in h, hp.ok, ⟨drawn_tab h, hp.len, h1, h2⟩, ?_, A.len⟩, n, ?_, ?_, fun g => ?_⟩
  · rw [fact_cnt h]; omega
  · refine (A.iff 168).mpr ?_
    have := enough h hp (fut_nil (calA ok)) (n_len c) (b := 168) (by have := h.len; omega)
    omega
  · rw [lev_val ok n]; exact (A.iff _).mp (Int.le_refl _)
  · rw [lev_val ok (by omega)]
    rcases Int.lt_or_le (mz c ps c.length [] (cwCost c ps m - 1)) m with q | q
    · exact q
    · have := (A.iff _).mpr q; omega
/-! ### the long calendar -/
theorem long_len : longC.length = 100 := by unfold longC; rw [List.length_replicate]
theorem long_day {i : Nat} {p : Day} (h : longC[i]? = some p) : p = (1, none) := by
  have := List.mem_of_getElem? h
  exact (List.mem_replicate.mp this).2
theorem long_in : CalIn longC := ⟨by rw [long_len]; exact Nat.le_refl _, fun i p hp => by
  rw [long_day hp]
  exact ⟨by decide, by decide, fun b e => by cases e⟩⟩
theorem long_sts {d : Nat} (hd : d ≤ 100) : (sts longC d).length ≤ 2 :=
  nodup_len (m := [[], [(101, 1)]]) (sts_nodup longC _) fun s h => by
    obtain ⟨past, hp, R, F⟩ := sts_past long_in.ok (by rw [long_len]; exact hd) h
    cases s with
    | nil => exact List.mem_cons_self
    | cons p l =>
      have k := R.key p List.mem_cons_self
      rw [long_n, hp] at k
      have hd' : d < 100 := by omega
      have f := F.aw ((d : Int) + 1) (by omega) (by rw [long_n]; omega)
      rw [long_away (by omega) (by omega), long_own (by omega) (by omega)] at f
      have g1 := R.gone ((d : Int) + 1) (by omega) (by rw [long_n]; omega)
      have g2 := R.gone 100 (by omega) (by rw [long_n]; omega)
      rw [long_away (by omega) (by omega)] at g1 g2
      have e1 : gone (p :: l) ((d : Int) + 1) = ((p :: l).map (·.2)).sum := by
        unfold gone
        rw [List.filter_eq_self.mpr fun q hq => decide_eq_true (by have := (R.key q hq).1; rw [hp] at this; exact this)]
      have ls := (len_le_sum R.num).1
      have hl : l = [] := by
        cases l with
        | nil => rfl
        | cons a l => rw [List.length_cons, List.length_cons] at ls; omega
      subst hl
      have e2 : ((([p] : State).map (·.2)).sum : Int) = p.2 := by simp
      rw [e2] at e1
      have n1 := R.num p List.mem_cons_self
      have e3 : gone [p] 100 = if 100 < p.1 then p.2 else 0 := by
        unfold gone
        by_cases q : 100 < p.1
        · simp [q]
        · simp [q]
      have k1 : p.1 = 101 := by
        by_cases q : 100 < p.1
        · omega
        · rw [if_neg q] at e3; omega
      have k2 : p.2 = 1 := by omega
      have : p = (101, 1) := Prod.ext k1 k2
      subst this
      exact List.mem_cons_of_mem _ List.mem_cons_self
theorem long_tab : TabOk longC := tabOk long_in.ok fun d hd => by
  have := long_sts (d := d) (by rw [← long_len]; exact hd)
  omega
theorem sum_le_mul {f : Nat → Nat} {m : Nat} : ∀ {l : List Nat}, (∀ x ∈ l, f x ≤ m) → (l.map f).sum ≤ m * l.length
  | [], _ => by simp
  | a :: l, h => by
    have h1 := h a List.mem_cons_self
    have h2 := sum_le_mul (l := l) fun x hx => h x (List.mem_cons_of_mem _ hx)
    rw [List.map_cons, List.sum_cons, List.length_cons, Nat.mul_add]
    omega
theorem long_sum : ((List.range (longC.length + 1)).map fun t => (sts longC t).length).sum ≤ 202 := by
  have := sum_le_mul (f := fun t => (sts longC t).length) (m := 2) (l := List.range (longC.length + 1)) fun x hx => long_sts (by have := List.mem_range.mp hx; rw [long_len] at this; omega)
  rw [List.length_range, long_len] at this
  rw [long_len]
  omega
theorem rep_ok {u : Int} (hu : 1 ≤ u) {p : Price} (hp : p = (u, 0, 0) ∨ p = (0, u, 0)) : PrOk (List.replicate 100 p) := fun q hq => by
  rw [(List.mem_replicate.mp hq).2]
  rcases hp with e | e <;> subst e <;> exact ⟨by simp <;> omega, by simp <;> omega, by simp⟩
theorem long_ent {u : Int} (hu : 1 ≤ u) {p : Price} (hp : p = (u, 0, 0) ∨ p = (0, u, 0)) {few r : Int} (f0 : 0 ≤ few) (f6 : few ≤ 6) (r0 : 0 ≤ r) (r1 : r < u) : EntOk longC (List.replicate 100 p) (u * few + r) := by
  have hs : ∃ p0 : Price, (p0 = (1, 0, 0) ∨ p0 = (0, 1, 0)) ∧ scaleP u (List.replicate 100 p0) = List.replicate 100 p := by
    rcases hp with e | e
    · refine ⟨(1, 0, 0), .inl rfl, ?_⟩
      unfold scaleP
      rw [List.map_replicate, e]; simp
    · refine ⟨(0, 1, 0), .inr rfl, ?_⟩
      unfold scaleP
      rw [List.map_replicate, e]; simp
  obtain ⟨p0, h0, e⟩ := hs
  rw [← e]
  exact ent_scale long_tab (by rw [List.length_replicate, long_len]) (rep_ok (Int.le_refl 1) h0) hu r0 r1 f0 long_sum (by omega)
theorem long_levels {u : Int} (hu : 1 ≤ u) {p : Price} (hp : p = (u, 0, 0) ∨ p = (0, u, 0)) {b : Int} (hb : 0 ≤ b) {m : Nat} (hm : m ≤ 101) : ((m : Int) ≤ mz longC (List.replicate 100 p) longC.length [] b) ↔ u * ((m : Int) - 1) ≤ b := by
  rw [long_len, long_val hu hp hb]
  have h := Int.le_ediv_iff_mul_le (a := (m : Int) - 1) (b := b) (show 0 < u by omega)
  rw [Int.mul_comm u, ← h]
  have hq := Int.ediv_nonneg hb (show 0 ≤ u by omega)
  omega
theorem fact_long {u : Int} {p : Price} (hu : 1 ≤ u) (hp : p = (u, 0, 0) ∨ p = (0, u, 0)) : (∀ m : Nat, 1 ≤ m → m ≤ 101 → CwIn longC (List.replicate 100 p) m ∧ cwCost longC (List.replicate 100 p) m = u * ((m : Int) - 1)) ∧
    ∀ few r, 0 ≤ few → few ≤ 6 → 0 ≤ r → r < u → LevIn longC (List.replicate 100 p) (u * few + r) ∧ levW longC (List.replicate 100 p) (u * few + r) = few + 1 := by
  have ok := long_in.ok
  have hl : (List.replicate 100 p).length = longC.length := by rw [List.length_replicate, long_len]
  have hc : ((101 : Nat) : Int) ≤ cntP longC longC.length [] := by
    have h1 := mz_le_cnt (calA ok) (ps := List.replicate 100 p) (b := u * 100) (fut_nil (calA ok)) (n_len longC)
    have h2 := (long_levels hu hp (b := u * 100) (by omega) (m := 101) (Nat.le_refl _)).mpr (by push_cast; exact Int.le_refl _)
    omega
  refine ⟨fun m h1 h2 => ?_, fun few r f0 f6 r0 r1 => ⟨⟨long_in, rep_ok hu hp, long_ent hu hp f0 f6 r0 r1⟩, ?_⟩⟩
  · have A := cw_at ok hl (rep_ok hu hp) h1 (by omega)
    have x0 : 0 ≤ u * ((m : Int) - 1) := Int.mul_nonneg (by omega) (by omega)
    refine ⟨⟨long_in, rep_ok hu hp, ⟨long_tab, hl, h1, by omega⟩, ?_, A.len⟩, A.is h1 x0 ((long_levels hu hp x0 h2).mpr (Int.le_refl _)) fun b b0 hb => (long_levels hu hp b0 h2).mp hb⟩
    rw [cnt_eq ok (relS_nil _) (fut_nil (calA ok)) (n_len _)]; omega
  · have x0 := Int.mul_nonneg (show 0 ≤ u by omega) f0
    rw [lev_val ok (by omega), long_len, long_val hu hp (by omega), Int.mul_add_ediv_left _ _ (by omega), Int.ediv_eq_zero_of_lt r0 r1]
    omega
/-! ### twelve pieces on one day -/
theorem mono_cut {C : Int → Int} (lim : Int) : ∀ n : Nat, (∀ i j : Int, 0 ≤ i → i ≤ j → j < n → C i ≤ C j) → ∃ T : Int, 0 ≤ T ∧ T ≤ n ∧ ∀ j : Int, 0 ≤ j → j < n → (C j ≤ lim ↔ j < T)
  | 0, _ => ⟨0, by omega, by omega, fun j a b => by omega⟩
  | n + 1, h => by
    obtain ⟨T, t0, t1, ht⟩ := mono_cut lim n fun i j a b c => h i j a b (by omega)
    by_cases q : C n ≤ lim
    · refine ⟨n + 1, by omega, by omega, fun j a b => ⟨fun _ => by omega, fun _ => ?_⟩⟩
      exact Int.le_trans (h j n a (by omega) (by omega)) q
    · refine ⟨T, t0, by omega, fun j a b => ?_⟩
      by_cases e : j = n
      · subst e
        exact ⟨fun g => absurd g q, fun g => by omega⟩
      · exact ht j a (by omega)
theorem sum_below {T : Int} (t0 : 0 ≤ T) : ∀ n : Nat, T ≤ n → ((upN n).map fun j => if j < T then (1 : Int) else 0).sum = T
  | 0, h => by
    have : T = 0 := by omega
    subst this
    rfl
  | n + 1, h => by
    rw [show ((n + 1 : Nat) : Int) = (n : Int) + 1 by omega, upN_succ (by omega), List.map_append, List.sum_append]
    by_cases e : T ≤ n
    · rw [sum_below t0 n e, List.map_cons, List.map_nil, List.sum_cons, List.sum_nil, if_neg (by omega)]; omega
    · have e2 : T = n + 1 := by omega
      rw [List.map_cons, List.map_nil, List.sum_cons, List.sum_nil, if_pos (by omega)]
      have e3 : ((upN n).map fun j => if j < T then (1 : Int) else 0) = (upN n).map fun j => if j < (n : Int) then (1 : Int) else 0 := List.map_congr_left fun j hj => by
        have := upN_mem.mp hj
        rw [if_pos (by omega), if_pos (by omega)]
      rw [e3, sum_below (T := n) (by omega) n (Int.le_refl _)]; omega
def cost12 (d e b j : Int) : Int := paidI (d, e, b) j + b * j
theorem costs12_eq (d e b : Int) : costs12 d e b = (upN 13).map (cost12 d e b) := by
  unfold costs12
  rw [show upN 13 = 0 :: upTo 1 12 by decide, List.map_cons]
  congr 1
  · unfold cost12 paidI; simp
  · refine List.map_congr_left fun j hj => ?_
    have := upTo_mem'.mp hj
    unfold cost12 paidI
    rw [if_pos (by omega), Int.add_mul]
    show _ = d * 1 + e * j + b * j
    omega
theorem paid_up {d e b : Int} (hd : 0 ≤ d) (he : 0 ≤ e) {i j : Int} (h0 : 0 ≤ i) (h1 : i ≤ j) : paidI (d, e, b) i ≤ paidI (d, e, b) j := by
  unfold paidI
  have := Int.mul_le_mul_of_nonneg_left h1 he
  show d * _ + e * i ≤ d * _ + e * j
  by_cases a : 0 < i
  · rw [if_pos a, if_pos (by omega)]; omega
  · rw [if_neg a]
    split <;> omega
section
variable {d e b : Int} {o : Option Int} (hd : 0 ≤ d) (he : 0 ≤ e) (hb : 0 ≤ b) (ho : o = none ∨ o = some 2)
include hd he hb
theorem cost12_up {i j : Int} (h0 : 0 ≤ i) (h1 : i ≤ j) : cost12 d e b i ≤ cost12 d e b j := by
  unfold cost12
  have := paid_up (b := b) hd he h0 h1
  have := Int.mul_le_mul_of_nonneg_left h1 hb
  omega
theorem cost12_nonneg {j : Int} (h0 : 0 ≤ j) : 0 ≤ cost12 d e b j := by
  have := cost12_up hd he hb (Int.le_refl 0) h0
  have e0 : cost12 d e b 0 = 0 := by unfold cost12 paidI; simp
  omega
include ho
theorem tw_mz {lim : Int} (hl : 0 ≤ lim) {T : Int} (t1 : T ≤ 13) (ht : ∀ j : Int, 0 ≤ j → j < 13 → (cost12 d e b j ≤ lim ↔ j < T)) : mz [(12, o)] [(d, e, b)] 1 [] lim = T := by
  have hr : roomP [(12, o)] [] = 12 := by rcases ho with q | q <;> subst q <;> decide
  have e0 : cost12 d e b 0 = 0 := by unfold cost12 paidI; simp
  have t0 : 0 < T := (ht 0 (by decide) (by decide)).mp (by omega)
  have hz : ∀ x past, mz [(12, o)] [(d, e, b)] 0 past x = if x < 0 then 0 else 1 := fun x past => rfl
  rw [mz_succ hl, hr]
  simp only [hz]
  show maxL ((upN 13).map fun J => ((upN (J + 1)).map fun j => if lim - paidI (d, e, b) J - b * j < 0 then (0 : Int) else 1).sum) = T
  refine maxL_eq (List.mem_map.mpr ⟨T - 1, upN_mem.mpr ⟨by omega, by omega⟩, ?_⟩) fun y hy => ?_
  · have hc := (ht (T - 1) (by omega) (by omega)).mpr (by omega)
    have e1 : ((upN (T - 1 + 1)).map fun j => if lim - paidI (d, e, b) (T - 1) - b * j < 0 then (0 : Int) else 1) = (upN ((T.toNat : Nat) : Int)).map fun j => if j < T then (1 : Int) else 0 := by
      rw [show T - 1 + 1 = ((T.toNat : Nat) : Int) by omega]
      refine List.map_congr_left fun j hj => ?_
      have hj := upN_mem.mp hj
      have := Int.mul_le_mul_of_nonneg_left (show j ≤ T - 1 by omega) hb
      unfold cost12 at hc
      rw [if_neg (by omega), if_pos (by omega)]
    rw [e1, sum_below (by omega) _ (by omega)]
  · obtain ⟨J, hJ, rfl⟩ := List.mem_map.mp hy
    have hJ := upN_mem.mp hJ
    have hsb := sum_below (T := T) (by omega) 13 (by omega)
    refine Int.le_trans (sum_up_le (g := fun j => if j < T then (1 : Int) else 0) (m := J + 1) (n := 13) (by omega) (fun j j0 j1 => ?_) fun j _ _ => by split <;> decide) (Int.le_of_eq hsb)
    show (if lim - paidI (d, e, b) J - b * j < 0 then (0 : Int) else 1) ≤ if j < T then (1 : Int) else 0
    by_cases q : lim - paidI (d, e, b) J - b * j < 0
    · rw [if_pos q]; split <;> decide
    · have h1 := paid_up (b := b) hd he j0 (show j ≤ J by omega)
      have h2 := (ht j j0 (by omega)).mp (by unfold cost12; omega)
      rw [if_neg q, if_pos h2]; exact Int.le_refl _
theorem tw_cut (lim : Int) (hl : 0 ≤ lim) : ∃ T : Int, T ≤ 13 ∧ (∀ j : Int, 0 ≤ j → j < 13 → (cost12 d e b j ≤ lim ↔ j < T)) ∧ mz [(12, o)] [(d, e, b)] 1 [] lim = T ∧ (((costs12 d e b).filter fun s => decide (s ≤ lim)).length : Int) = T := by
  obtain ⟨T, t0, t1, ht⟩ := mono_cut lim 13 fun i j a b' c => cost12_up hd he hb a b'
  refine ⟨T, t1, ht, tw_mz hd he hb ho hl t1 ht, ?_⟩
  have e1 : (((costs12 d e b).filter fun s => decide (s ≤ lim)).length : Int) = (((((upN 13).map (cost12 d e b)).filter fun s => decide (s ≤ lim)).map fun _ => (1 : Int))).sum := by
    rw [costs12_eq]
    generalize ((upN 13).map (cost12 d e b)).filter _ = l
    induction l with
    | nil => rfl
    | cons a l ih => rw [List.map_cons, List.sum_cons, ← ih, List.length_cons]; omega
  rw [e1, sum_filter]
  have e2 : ((upN 13).map fun x => if decide (cost12 d e b x ≤ lim) = true then (1 : Int) else 0) = (upN ((13 : Nat) : Int)).map fun j => if j < T then (1 : Int) else 0 := List.map_congr_left fun j hj => by
    have hj := upN_mem.mp hj
    by_cases q : cost12 d e b j ≤ lim
    · rw [if_pos (decide_eq_true q), if_pos ((ht j hj.1 (by omega)).mp q)]
    · rw [if_neg (by simpa using q), if_neg fun g => q ((ht j hj.1 (by omega)).mpr g)]
  rw [e2, sum_below t0 13 t1]
omit hd he hb in
theorem tw_in : CalIn [(12, o)] := ⟨by show 1 ≤ 100; decide, fun i p hp => by
  cases i with
  | zero =>
    have : p = (12, o) := (Option.some.inj hp).symm
    subst this
    refine ⟨show (0 : Int) ≤ 12 by decide, show (12 : Int) ≤ 12 by decide, fun x hx => ?_⟩
    rcases ho with q | q
    · rw [q] at hx; cases hx
    · rw [q] at hx
      have : x = 2 := (Option.some.inj hx).symm
      subst this; decide
  | succ i => exact absurd hp (by simp)⟩
omit hd he hb in
theorem tw_tab : TabOk [(12, o)] := tabOk (tw_in ho).ok fun d hd => by
  have h1 := sts_end (tw_in ho).ok
  have : d = 0 ∨ d = 1 := by
    have : d ≤ 1 := hd
    omega
  rcases this with q | q
  · subst q; show 1 ≤ 300; decide
  · subst q
    exact Nat.le_trans h1 (by decide)
theorem tw_pr : PrOk [(d, e, b)] := fun p hp => by
  rw [List.mem_singleton.mp hp]; exact ⟨hd, he, hb⟩
theorem tw_ent {lim : Int} (hl : 0 ≤ lim) : EntOk [(12, o)] [(d, e, b)] lim where
  tab := tw_tab ho
  len := rfl
  b0 := hl
  size := by
    show (lev [(12, o)] [(d, e, b)] lim 0 ++ lev [(12, o)] [(d, e, b)] lim 1).length ≤ 5000
    have h1 : (lev [(12, o)] [(d, e, b)] lim 1).length ≤ 169 := by
      show (((lev [(12, o)] [(d, e, b)] lim 0).flatMap fun x => (outE [(12, o)] [(d, e, b)] x).flatten).foldl addG []).length ≤ 169
      refine Nat.le_trans length_addG_le ?_
      have := fm_len (c := [(12, o)]) (ps := [(d, e, b)]) (l := lev [(12, o)] [(d, e, b)] lim 0) fun x hx => by
        rw [List.mem_singleton.mp hx]
        have hq := out_len (ps := [(d, e, b)]) (e := ((1 : Int), ([] : State), lim)) (tw_in ho).ok ((tw_tab ho).bd 0 (Nat.zero_le _) [] (by simp [sts])) (Int.le_refl 1) (show (1 : Int) ≤ 1 by decide)
        have := flat_len hq.2
        have := hq.1
        omega
      have h0 : (lev [(12, o)] [(d, e, b)] lim 0).length = 1 := rfl
      rw [h0] at this
      rw [List.length_nil]
      omega
    rw [List.length_append]
    have h0 : (lev [(12, o)] [(d, e, b)] lim 0).length = 1 := rfl
    omega
theorem fact_twelve : (∀ m : Nat, 1 ≤ m → m ≤ 13 → CwIn [(12, o)] [(d, e, b)] m ∧ cwCost [(12, o)] [(d, e, b)] m = (costs12 d e b).getD (m - 1) 0) ∧
    ∀ lim, 0 ≤ lim → LevIn [(12, o)] [(d, e, b)] lim ∧ levW [(12, o)] [(d, e, b)] lim = ((costs12 d e b).filter fun s => decide (s ≤ lim)).length := by
  have ok := (tw_in ho).ok
  have hc : (13 : Int) ≤ cntP [(12, o)] 1 [] := by
    obtain ⟨T, t1, ht, e1, _⟩ := tw_cut hd he hb ho (cost12 d e b 12) (cost12_nonneg hd he hb (by decide))
    have h1 := mz_le_cnt (calA ok) (ps := [(d, e, b)]) (b := cost12 d e b 12) (fut_nil (calA ok)) (n_len [(12, o)])
    have h2 := (ht 12 (by decide) (by decide)).mp (Int.le_refl _)
    have h3 : mz [(12, o)] [(d, e, b)] [(12, o)].length [] (cost12 d e b 12) = T := e1
    have h4 : cntP [(12, o)] [(12, o)].length [] = cntP [(12, o)] 1 [] := rfl
    omega
  refine ⟨fun m h1 h2 => ?_, fun lim hl => ⟨⟨tw_in ho, tw_pr hd he hb ho, tw_ent hd he hb ho hl⟩, ?_⟩⟩
  · have hc' : (m : Int) ≤ cntP [(12, o)] [(12, o)].length [] := by
      have h4 : cntP [(12, o)] [(12, o)].length [] = cntP [(12, o)] 1 [] := rfl
      omega
    have A := cw_at ok (ps := [(d, e, b)]) rfl (tw_pr hd he hb ho) h1 hc'
    have eg : (costs12 d e b).getD (m - 1) 0 = cost12 d e b ((m : Int) - 1) := by
      rw [costs12_eq, show m - 1 = ((m : Int) - 1).toNat by omega]
      exact getD_upN (by omega) (by omega)
    have x0 := cost12_nonneg hd he hb (j := (m : Int) - 1) (by omega)
    refine ⟨⟨tw_in ho, tw_pr hd he hb ho, ⟨tw_tab ho, rfl, h1, by omega⟩, ?_, A.len⟩, ?_⟩
    · rw [cnt_eq ok (relS_nil _) (fut_nil (calA ok)) (n_len _)]; exact hc'
    · rw [eg]
      refine A.is h1 x0 ?_ fun y y0 hy => ?_
      · obtain ⟨T, t1, ht, e1, _⟩ := tw_cut hd he hb ho _ x0
        have h2 := (ht ((m : Int) - 1) (by omega) (by omega)).mp (Int.le_refl _)
        show (m : Int) ≤ mz [(12, o)] [(d, e, b)] 1 [] _
        rw [e1]; omega
      · obtain ⟨T, t1, ht, e1, _⟩ := tw_cut hd he hb ho y y0
        have hy : (m : Int) ≤ mz [(12, o)] [(d, e, b)] 1 [] y := hy
        rw [e1] at hy
        exact (ht _ (by omega) (by omega)).mpr (by omega)
  · obtain ⟨T, t1, ht, e1, e2⟩ := tw_cut hd he hb ho lim hl
    rw [lev_val ok hl, e2]
    exact e1
end
theorem lawFacts : LawFacts where
  cnt := fun c h => ⟨drawn_in h, drawn_tab h, fact_cnt h⟩
  rows := fun c h => fact_rows h
  free := fun c b h hb => fact_free h hb
  dear := fun c q b h hq h0 hb => fact_dear h hq h0 hb
  base := fun c ps b h hp h0 h1 => ⟨base_in h hp h0 h1, by
    have ok := (drawn_in h).ok
    rw [lev_val ok h0]
    exact mz_nonneg (calA ok) (fut_nil (calA ok)) (n_len c)⟩
  mono := fun c ps b h hp h0 => fact_mono h h0
  scale := fun c ps b f r h hp h0 h1 hf r0 r1 => fact_scale h hp h0 h1 hf r0 r1
  less := fun c ps ps' b h hp hp' hle h0 => fact_less h hp.len hle h0
  more := fun c ps b h _ hp h0 h1 => fact_more h hp h0 h1
  idle := fun c ps b h hp h0 h1 => fact_idle h hp h0 h1
  steps := fun c ps m h hp h1 h2 hm => fact_steps h hp h1 h2 hm
  long := fun u p hu hp => fact_long hu hp
  twelve := fun d e b o hd he hb ho => fact_twelve hd he hb ho
end BR

set_option Elab.async false
set_option linter.all false
set_option maxRecDepth 100000
set_option maxHeartbeats 2000000
/-! J1: from the facts of the written part to the law's promise (printed by gen_all.py). -/
namespace BR
open PySem L2 PySem.Spec PyProof.Rows PD
section
variable {P : Program} {w : World} {K : PySem.W.Frag} {mg : Str → Option Value} {base h : Heap} {C : Addr}
theorem DefAt.cal {x : Str} {st : Stmt} {k : Nat} {ps : List Str} {sp : Sp} (D : DefAt K x st) (X : K.In h) (G : h.Ns mainGlobals mg)
    (hb : ∀ (kV doc pm : Value) (an : Option Addr) (cdv ct : Value) (us : List Value), us.length = ps.length → bindArgs (PySem.W.fnOf x x (defArgs st) (defBody st) (defScope st) .none kV doc pm an cdv ct) ⟨us, []⟩ = pure (ps.zip us))
    (hF : ∀ f fd, mg x = some (.ref f) → Fun K x x st f fd → Binds K fd ps [] → FnOk P w K mg base CX0 k f fd ps sp) : PD.Cal P w K mg base k x ps sp := by
  obtain ⟨f, fd, a, F⟩ := D.ex
  have hm := PySem.W.mg_of X G a
  have b := F.binds hb
  exact ⟨f, fd, hF f fd hm F b, hm, F.kp, b⟩
theorem MethAt.cal {m qual : Str} {st : Stmt} {k : Nat} {ps : List Str} {sp : Sp} (D : MethAt K C m qual st)
    (hb : ∀ (kV doc pm : Value) (an : Option Addr) (cdv ct : Value) (us : List Value), us.length = ps.length → bindArgs (PySem.W.fnOf m qual (defArgs st) (defBody st) (defScope st) .none kV doc pm an cdv ct) ⟨us, []⟩ = pure (ps.zip us))
    (hF : ∀ f fd, Fun K m qual st f fd → FnOk P w K mg base CX0 k f fd ps sp) : MCal P w K mg base C k m ps sp := by
  obtain ⟨f, fd, M, F⟩ := D.ex
  exact ⟨f, fd, hF f fd F, M, F.binds hb⟩
theorem NumAt.at_ {x : Str} {n : Int} (D : NumAt K x n) (X : K.In h) (G : h.Ns mainGlobals mg) : ∃ t, mg x = some (.int n t) := by
  obtain ⟨t, e⟩ := D.ex
  exact ⟨t, PySem.W.mg_of X G e⟩
theorem Facts.txt (F : Facts K) (X : K.In h) (G : h.Ns mainGlobals mg) : Txt mg where
  isinstance := PySem.W.mg_none_of X G F.z_isinstance
  int := PySem.W.mg_none_of X G F.z_int
  bool := PySem.W.mg_none_of X G F.z_bool
  tuple := PySem.W.mg_none_of X G F.z_tuple
  list := PySem.W.mg_none_of X G F.z_list
  len := PySem.W.mg_none_of X G F.z_len
  all := PySem.W.mg_none_of X G F.z_all
  enumerate := PySem.W.mg_none_of X G F.z_enumerate
  range := PySem.W.mg_none_of X G F.z_range
  min := PySem.W.mg_none_of X G F.z_min
  max := PySem.W.mg_none_of X G F.z_max
  sum := PySem.W.mg_none_of X G F.z_sum
  dict := PySem.W.mg_none_of X G F.z_dict
  sorted := PySem.W.mg_none_of X G F.z_sorted
  reversed := PySem.W.mg_none_of X G F.z_reversed
  zip := PySem.W.mg_none_of X G F.z_zip
  maxDays := F.c_MAX_DAYS.at_ X G
  maxOwned := F.c_MAX_OWNED.at_ X G
  maxStates := F.c_MAX_STATES.at_ X G
  maxEntries := F.c_MAX_ENTRIES.at_ X G
  maxLevels := F.c_MAX_LEVELS.at_ X G
theorem TabAt.tabC (T : TabAt K C) : TabC K C := ⟨⟨T.pg, T.hd, T.po, T.sa⟩, T.n_owned, T.n_days, T.n_backs, T.n_lows, T.n_steps, T.n_counts⟩
theorem exm_self {S : Addr} (h1 : PySem.W.subIn K (.ref S) (.type "BaseException") = some true) (h2 : PySem.W.isClsIn K S = true) (h3 : PySem.W.typeIn K (.ref S) = some (.type "type")) (h4 : PySem.W.subIn K (.ref S) (.ref S) = some true) :
    PySem.W.exmOne K (.ref S) (.ref S) = some true := by
  have e1 : (PySem.W.subIn K (.ref S) (.type "BaseException") == some true) = true := by rw [h1] <;> rfl
  have e2 : ((PySem.W.clsIn K S).isSome && PySem.W.typeIn K (.ref S) == some (.type "type")) = true := by
    have h2' : (PySem.W.clsIn K S).isSome = true := h2
    rw [h2', h3] <;> rfl
  show (if (PySem.W.subIn K (.ref S) (.type "BaseException") == some true) = true then (if ((PySem.W.clsIn K S).isSome && PySem.W.typeIn K (.ref S) == some (.type "type")) = true then PySem.W.subIn K (.ref S) (.ref S) else none) else none) = some true
  rw [if_pos e1, if_pos e2]
  exact h4
theorem ErrAt.low {fI : Addr} (T : ErrAt K C fI) (X : K.In h) (G : h.Ns mainGlobals mg) : PySem.LowX.LowTxt K mg C fI := by
  obtain ⟨nm, q, N, bs, B, sn, sub, ab, col, dd, m0, m1, m2, m3, m5, e⟩ := T.cls.ex
  obtain ⟨oc, od, doc, pm, an, cdv, ct, osl, l1, c1⟩ := T.fn.ex
  exact { gC := PySem.W.mg_of X G T.gC, cls := ⟨nm, q, N, bs, _, sn, sub, ab, col, dd, m0, m1, m2, m3, m5, e, by rfl⟩, sa := T.sa, ga := T.ga, gg := T.gg, noN := T.nn, iC := T.iC, tC := T.tC, kC := T.kC, exC := T.eC, tyC := T.tyC, hdC := T.hC, te := exm_self T.eC T.isC T.tyC T.sC, fn := ⟨_, _, _, _, _, _, _, _, _, _, _, _, _, _, l1, c1⟩ }
theorem calls_of (F : Facts K) (X : K.In h) (G : h.Ns mainGlobals mg) : Calls P w K mg base := by
  have T := F.txt X G
  obtain ⟨C, TB⟩ := F.tab
  obtain ⟨E, fI, ER⟩ := F.err
  have TC := TB.tabC
  have L := ER.low X G
  have LF := lawFacts
  have mLow : MCal P w K mg base C 1 "low_days" ["self", "day"] (spLow ⟨P, w⟩ C) := TB.m1.cal (fun _ _ _ _ _ _ us hl => match us, hl with | [_, _], _ => rfl) fun f fd F => ok_low T TC F
  have mRoom : MCal P w K mg base C 1 "room" ["self", "state", "day"] (spRoom ⟨P, w⟩ C) := TB.m2.cal (fun _ _ _ _ _ _ us hl => match us, hl with | [_, _, _], _ => rfl) fun f fd F => ok_room T TC F
  have mFol : MCal P w K mg base C 1 "follower" ["self", "state", "day", "number"] (spFollower ⟨P, w⟩ C) := TB.m3.cal (fun _ _ _ _ _ _ us hl => match us, hl with | [_, _, _, _], _ => rfl) fun f fd F => ok_follower T TC F
  have mFols : MCal P w K mg base C 2 "followers" ["self", "state", "day"] (spFollowers ⟨P, w⟩ C) := TB.m4.cal (fun _ _ _ _ _ _ us hl => match us, hl with | [_, _, _], _ => rfl) fun f fd F => ok_followers T TC mRoom mFol F
  have mState : MCal P w K mg base C 1 "state_of" ["self", "past"] (spStateOf ⟨P, w⟩ C) := TB.m5.cal (fun _ _ _ _ _ _ us hl => match us, hl with | [_, _], _ => rfl) fun f fd F => ok_stateOf T TC F
  have mCnt : MCal P w K mg base C 2 "count_after" ["self", "past"] (spCountAfter ⟨P, w⟩ C) := TB.m6.cal (fun _ _ _ _ _ _ us hl => match us, hl with | [_, _], _ => rfl) fun f fd F => ok_countAfter T TC mState F
  have tm : TMk P w K mg base C := by
    obtain ⟨f, fd, Mt, F0⟩ := TB.m0.ex
    exact ⟨f, fd, ok_init T TC mLow mFols F0, ⟨TB.mks, Mt.at_, Mt.fn, TB.kc⟩, PySem.W.mg_of X G TB.gC, F0.binds fun _ _ _ _ _ _ us hl => match us, hl with | [_, _], _ => rfl⟩
  have cInt : PD.Cal P w K mg base 1 "is_integer" ["value"] (spIsInt ⟨P, w⟩) := F.d11.cal X G (fun _ _ _ _ _ _ us hl => match us, hl with | [_], _ => rfl) fun f fd hm F b => ok_isInt T F
  have cLeast : PD.Cal P w K mg base 2 "is_at_least" ["value", "low"] (spAtLeast ⟨P, w⟩) := F.d12.cal X G (fun _ _ _ _ _ _ us hl => match us, hl with | [_, _], _ => rfl) fun f fd hm F b => ok_atLeast T cInt F
  have cBetw : PD.Cal P w K mg base 2 "is_between" ["value", "low", "high"] (spBetween ⟨P, w⟩) := F.d13.cal X G (fun _ _ _ _ _ _ us hl => match us, hl with | [_, _, _], _ => rfl) fun f fd hm F b => ok_between T cInt F
  have cDay : PD.Cal P w K mg base 3 "is_day" ["value", "day"] (spIsDay ⟨P, w⟩) := F.d14.cal X G (fun _ _ _ _ _ _ us hl => match us, hl with | [_, _], _ => rfl) fun f fd hm F b => ok_isDay T cLeast cBetw F
  have cReqCal : PD.Cal P w K mg base 4 "require_calendar" ["calendar"] (spReqCal ⟨P, w⟩) := F.d15.cal X G (fun _ _ _ _ _ _ us hl => match us, hl with | [_], _ => rfl) fun f fd hm F b => ok_reqCal T cDay F
  have cCount : PD.Cal P w K mg base 5 "count_rows" ["calendar"] (spCountRows ⟨P, w⟩) := F.d21.cal X G (fun _ _ _ _ _ _ us hl => match us, hl with | [_], _ => rfl) fun f fd hm F b => ok_countRows TC cReqCal tm mCnt F
  have cIsP : PD.Cal P w K mg base 3 "is_price" ["value"] (spIsPrice ⟨P, w⟩) := F.d25.cal X G (fun _ _ _ _ _ _ us hl => match us, hl with | [_], _ => rfl) fun f fd hm F b => ok_isPrice T cLeast F
  have cReqP : PD.Cal P w K mg base 4 "require_prices" ["calendar", "prices"] (spReqPrices ⟨P, w⟩) := F.d26.cal X G (fun _ _ _ _ _ _ us hl => match us, hl with | [_, _], _ => rfl) fun f fd hm F b => ok_reqPrices T cIsP F
  have cPaid : PD.Cal P w K mg base 1 "paid" ["price", "used"] (spPaid ⟨P, w⟩) := F.d27.cal X G (fun _ _ _ _ _ _ us hl => match us, hl with | [_, _], _ => rfl) fun f fd hm F b => ok_paid T F
  have cBr : PD.Cal P w K mg base 3 "branches" ["table", "prices", "day", "state", "budget"] (spBr ⟨P, w⟩ C) := F.d28.cal X G (fun _ _ _ _ _ _ us hl => match us, hl with | [_, _, _, _, _], _ => rfl) fun f fd hm F b => ok_branches T TC mFols cPaid F
  have cEn : PD.Cal P w K mg base 4 "entries_of" ["table", "prices", "budget"] (spEn ⟨P, w⟩ C) := F.d29.cal X G (fun _ _ _ _ _ _ us hl => match us, hl with | [_, _, _], _ => rfl) fun f fd hm F b => ok_entries T TC cBr F
  have cMo : PD.Cal P w K mg base 1 "most_of" ["entries", "days"] (spMo ⟨P, w⟩) := F.d30.cal X G (fun _ _ _ _ _ _ us hl => match us, hl with | [_, _], _ => rfl) fun f fd hm F b => ok_most T F
  have cReqB : PD.Cal P w K mg base 5 "require_budget" ["calendar", "prices", "budget"] (spReqBud ⟨P, w⟩ C) := F.d31.cal X G (fun _ _ _ _ _ _ us hl => match us, hl with | [_, _, _], _ => rfl) fun f fd hm F b => ok_reqBud cReqCal cReqP cLeast tm F
  have cLevW : PD.Cal P w K mg base 6 "levels_within" ["calendar", "prices", "budget"] (spLevW ⟨P, w⟩) := F.d32.cal X G (fun _ _ _ _ _ _ us hl => match us, hl with | [_, _, _], _ => rfl) fun f fd hm F b => ok_levW TC cReqB cEn cMo F
  have cRe : PD.Cal P w K mg base 2 "reached" ["later", "price", "following", "used"] (spRe ⟨P, w⟩) := F.d33.cal X G (fun _ _ _ _ _ _ us hl => match us, hl with | [_, _, _, _], _ => rfl) fun f fd hm F b => ok_reached T cPaid F
  have cLc : PD.Cal P w K mg base 3 "least_costs" ["table", "prices", "levels"] (spLc ⟨P, w⟩ C) := F.d34.cal X G (fun _ _ _ _ _ _ us hl => match us, hl with | [_, _, _], _ => rfl) fun f fd hm F b => ok_least T TC mFols cRe F
  have cWr : PD.Cal P w K mg base 103 "worst_rows" pWr (spWR ⟨P, w⟩ C 100) := F.d35.cal X G (fun _ _ _ _ _ _ us hl => match us, hl with | [_, _, _, _, _, _], _ => rfl) fun f fd hm F b => ok_wr T TC mFols cRe F hm F.kp b 100
  have cCw : PD.Cal P w K mg base 104 "cheapest_worst" ["calendar", "prices", "levels"] (spCW ⟨P, w⟩) := F.d36.cal X G (fun _ _ _ _ _ _ us hl => match us, hl with | [_, _, _], _ => rfl) fun f fd hm F b => ok_cw T TC cReqCal cReqP cBetw tm mCnt cLc cWr F
  have cMix : PD.Cal P w K mg base 1 "_law_mix" ["_law_cell", "_law_step"] (spMix ⟨P, w⟩) := F.d38.cal X G (fun _ _ _ _ _ _ us hl => match us, hl with | [_, _], _ => rfl) fun f fd hm F b => ok_mix F
  have cSrc : PD.Cal P w K mg base 1 "_law_source" ["_law_cell"] (spSrc ⟨P, w⟩) := F.d39.cal X G (fun _ _ _ _ _ _ us hl => match us, hl with | [_], _ => rfl) fun f fd hm F b => ok_source F
  have cDraw : PD.Cal P w K mg base 2 "_law_draw" ["_law_source_here", "_law_bound"] (spDraw ⟨P, w⟩) := F.d40.cal X G (fun _ _ _ _ _ _ us hl => match us, hl with | [_, _], _ => rfl) fun f fd hm F b => ok_draw cMix F
  have cChoice : PD.Cal P w K mg base 3 "_law_choice" ["_law_source_here", "_law_options"] (spChoice ⟨P, w⟩) := F.d41.cal X G (fun _ _ _ _ _ _ us hl => match us, hl with | [_, _], _ => rfl) fun f fd hm F b => ok_choice T cDraw F
  have cDays : PD.Cal P w K mg base 4 "_law_days" ["_law_source_here", "_law_most_days", "_law_most_owned"] (spDays ⟨P, w⟩) := F.d43.cal X G (fun _ _ _ _ _ _ us hl => match us, hl with | [_, _, _], _ => rfl) fun f fd hm F b => ok_days T cDraw cChoice F
  have cAl : PD.Cal P w K mg base 1 "_law_is_allowed" ["_law_days_in", "_law_numbers"] (spAl ⟨P, w⟩) := F.d44.cal X G (fun _ _ _ _ _ _ us hl => match us, hl with | [_, _], _ => rfl) fun f fd hm F b => ok_allowed T F
  have cRows : PD.Cal P w K mg base 2 "_law_rows" ["_law_days_in"] (spRo ⟨P, w⟩) := F.d45.cal X G (fun _ _ _ _ _ _ us hl => match us, hl with | [_], _ => rfl) fun f fd hm F b => ok_rows T cAl F
  have cPrices : PD.Cal P w K mg base 4 "_law_prices" ["_law_source_here", "_law_days_in", "_law_wide"] (spPr ⟨P, w⟩) := F.d46.cal X G (fun _ _ _ _ _ _ us hl => match us, hl with | [_, _, _], _ => rfl) fun f fd hm F b => ok_prices T cDraw cChoice F
  have cBk : PD.Cal P w K mg base 7 "_law_breaks_right" ["_law_source_here", "_law_days_in", "_law_rows_so"] (spBk ⟨P, w⟩) := F.d47.cal X G (fun _ _ _ _ _ _ us hl => match us, hl with | [_, _, _], _ => rfl) fun f fd hm F b => ok_breaks LF T cDraw cChoice cLevW F
  have cLevs : PD.Cal P w K mg base 7 "_law_levels" ["_law_days_in", "_law_prices_in", "_law_limit"] (spLevW ⟨P, w⟩) := F.d48.cal X G (fun _ _ _ _ _ _ us hl => match us, hl with | [_, _, _], _ => rfl) fun f fd hm F b => ok_levels cLevW F
  have cWp : PD.Cal P w K mg base 5 "with_pieces" ["calendar", "first", "last", "pieces"] (spWp ⟨P, w⟩) := F.d17.cal X G (fun _ _ _ _ _ _ us hl => match us, hl with | [_, _, _, _], _ => rfl) fun f fd hm F b => ok_wp T cReqCal cBetw cInt F
  have cMore : PD.Cal P w K mg base 8 "_law_more" ["_law_days_in", "_law_prices_in", "_law_limit"] (spMore ⟨P, w⟩) := by
    obtain ⟨fW, fdW, aW, FW⟩ := F.d17.ex
    exact F.d49.cal X G (fun _ _ _ _ _ _ us hl => match us, hl with | [_, _, _], _ => rfl) fun f fd hm F b => ok_more T L cWp (ok_wp0 T L cReqCal cBetw FW) (PySem.W.mg_of X G aW) FW.kp (FW.binds fun _ _ _ _ _ _ us hl => match us, hl with | [_, _, _, _], _ => rfl) cLevs F
  have cSt : PD.Cal P w K mg base 105 "_law_steps_right" pSt (spSt ⟨P, w⟩) := F.d50.cal X G (fun _ _ _ _ _ _ us hl => match us, hl with | [_, _, _, _], _ => rfl) fun f fd hm F b => ok_steps LF T cDraw cCw cLevs F
  have cRi : PD.Cal P w K mg base 9 "_law_right" pRi (spRi ⟨P, w⟩) := F.d51.cal X G (fun _ _ _ _ _ _ us hl => match us, hl with | [_, _, _, _], _ => rfl) fun f fd hm F b => ok_right LF T cDraw cLevW cMore F
  have cLong : PD.Cal P w K mg base 105 "_law_long_right" ["_law_source_here"] (spOne ⟨P, w⟩) := F.d52.cal X G (fun _ _ _ _ _ _ us hl => match us, hl with | [_], _ => rfl) fun f fd hm F b => ok_long LF T cDraw cChoice cLevW cCw F
  have cTw : PD.Cal P w K mg base 105 "_law_twelve_right" ["_law_source_here"] (spOne ⟨P, w⟩) := F.d53.cal X G (fun _ _ _ _ _ _ us hl => match us, hl with | [_], _ => rfl) fun f fd hm F b => ok_twelve LF T cDraw cChoice cLevW cCw F
  exact ⟨cTw, cLong, cSrc, cDays, cRows, cPrices, cLevW, cCount, cBk, cRi, cChoice, cDraw, cSt⟩
end
theorem all_mk {l : PySem.W.OpenLaw} {w : World} {K : PySem.W.Frag} {h : Heap} {mg : Str → Option Value} {fa : Addr} (X : K.In h) (G : h.Ns mainGlobals mg) (hfa : mg "law" = some (.ref fa)) (F : Facts K) :
    ∃ fd : FuncData, (∀ (s : Shared) (v : Value), BindsTo s fd ⟨[v], []⟩ [("_law_script", v)]) ∧ ∀ base : Heap, K.In base → base.Ns mainGlobals mg → FnOk l.prog w K mg base CX0 106 fa fd ["_law_script"] (spLaw K ⟨l.prog, w⟩) := by
  obtain ⟨f, fd, a, FL⟩ := F.d54.ex
  have e := hfa.symm.trans (PySem.W.mg_of X G a)
  cases e
  refine ⟨fd, ?_, fun base XB GB => ok_law lawFacts (F.txt X G) (calls_of F X G) FL⟩
  obtain ⟨oc, od, kV, doc, pm, an, cdv, ct, osl, e, _, _⟩ := FL.ex
  subst e
  exact fun s v => .of_eq rfl
theorem walk {l : PySem.W.OpenLaw} {q : Program} {loose : List Str} {XP : (Str → Option Value) → Heap → Prop} {YP : World → Heap → Prop} {d : DefRec} {K : Params → PySem.W.Frag} (hn : l.most = some 63) (hdf : d.params.defaults = [])
    (hY : ∀ (w : World) (h : Heap), YP w h → (K w.params).In h)
    (F : ∀ (w : World) (mg : Str → Option Value) (fa : Addr) (h : Heap), (K w.params).In h → h.Ns mainGlobals mg → mg d.name = some (.ref fa) →
      ∃ fd : FuncData, (∀ (s : Shared) (u : Value), BindsTo s fd ⟨[u], []⟩ [("_law_script", u)]) ∧ ∀ base : Heap, (K w.params).In base → base.Ns mainGlobals mg → FnOk l.prog w (K w.params) mg base CX0 106 fa fd ["_law_script"] (spLaw (K w.params) ⟨l.prog, w⟩)) :
    PySem.W.WalkO q loose XP YP l.row.toRowW d [] (fun f vs => PySem.call f vs) := by
  refine L2.walk_of (n := 63) (k := 106) (x := "_law_script") (CX := fun _ => CX0) (sp := fun w => spLaw (K w.params) ⟨l.prog, w⟩) hn (by decide) hdf ⟨rfl, by decide, by decide⟩ hY F (fun w H a ns hl hO hS => ?_) fun _ _ _ _ _ z => z
  have W0 : Wd.ok ⟨fun _ => False, fun _ => False⟩ H := ⟨fun _ z => z.elim, fun _ z => z, fun _ z => z.elim⟩
  rcases hS with (hS | ⟨o, hS⟩) | hS
  · rcases hO a with z | ⟨o, xs, z⟩
    · rw [hS] at z; cases z
    · rw [hS] at z; cases z
  · exact ⟨_, (D.flst (ns.map D.int), ns), W0, ⟨.inl rfl, hl⟩, ⟨.ref a, [], rfl, ⟨a, o, ns.map V.int, rfl, fun z => z, hS, repL_int ns⟩, rfl⟩, fun v H' d hd _ rv => by
      subst hd; exact rv⟩
  · exact ⟨_, (D.adr a, ns), W0, ⟨.inr ⟨a, rfl, hS⟩, hl⟩, ⟨.ref a, [], rfl, rfl, rfl⟩, fun v H' d hd _ rv => by
      subst hd; exact rv⟩
end BR

open PySem PySem.W PyProof.Rows
set_option maxRecDepth 100000 in
set_option maxHeartbeats 0 in
theorem PySem.Challenge.cw_breakrows_k60_whole_prices_and_counts_holds : PySem.Challenge.rw_breakrows_k60_whole_prices_and_counts.Holds := by
  w_on; o_law; k_head; (case hw => w_witness2)
  k_fill
  refine BR.walk (l := PySem.Challenge.rw_breakrows_k60_whole_prices_and_counts) rfl rfl (fun w h Y => PySem.W.kIn_of Y) ?F
  case F =>
    intro w mg fa h KX G hmg
    refine' BR.all_mk KX G hmg ?T
    refine' BR.Facts.mk ?tab ?err ?d11 ?d12 ?d13 ?d14 ?d15 ?d17 ?d21 ?d25 ?d26 ?d27 ?d28 ?d29 ?d30 ?d31 ?d32 ?d33 ?d34 ?d35 ?d36 ?d38 ?d39 ?d40 ?d41 ?d43 ?d44 ?d45 ?d46 ?d47 ?d48 ?d49 ?d50 ?d51 ?d52 ?d53 ?d54 ?c_MAX_DAYS ?c_MAX_OWNED ?c_MAX_STATES ?c_MAX_ENTRIES ?c_MAX_LEVELS ?z_isinstance ?z_int ?z_bool ?z_tuple ?z_list ?z_len ?z_all ?z_enumerate ?z_range ?z_min ?z_max ?z_sum ?z_dict ?z_sorted ?z_reversed ?z_zip
    case tab =>
      refine' ⟨_, BR.TabAt.mk ?gC ?pg ?hd ?po ?sa ?mks ?kc ?n_owned ?n_days ?n_backs ?n_lows ?n_steps ?n_counts ?m0 ?m1 ?m2 ?m3 ?m4 ?m5 ?m6⟩
      (case gC => k_is)
      (case pg => k_is)
      (case hd => k_is)
      (case po => k_is)
      (case sa => k_is)
      (case mks => k_is)
      (case kc => k_is)
      (case n_owned => k_is)
      (case n_days => k_is)
      (case n_backs => k_is)
      (case n_lows => k_is)
      (case n_steps => k_is)
      (case n_counts => k_is)
      case m0 =>
        refine' BR.meth_mk ?a ?i ?l ?c ?k
        (case a => k_is); (case i => k_is); (case l => k_is); (case c => k_is); (case k => k_is)
      case m1 =>
        refine' BR.meth_mk ?a ?i ?l ?c ?k
        (case a => k_is); (case i => k_is); (case l => k_is); (case c => k_is); (case k => k_is)
      case m2 =>
        refine' BR.meth_mk ?a ?i ?l ?c ?k
        (case a => k_is); (case i => k_is); (case l => k_is); (case c => k_is); (case k => k_is)
      case m3 =>
        refine' BR.meth_mk ?a ?i ?l ?c ?k
        (case a => k_is); (case i => k_is); (case l => k_is); (case c => k_is); (case k => k_is)
      case m4 =>
        refine' BR.meth_mk ?a ?i ?l ?c ?k
        (case a => k_is); (case i => k_is); (case l => k_is); (case c => k_is); (case k => k_is)
      case m5 =>
        refine' BR.meth_mk ?a ?i ?l ?c ?k
        (case a => k_is); (case i => k_is); (case l => k_is); (case c => k_is); (case k => k_is)
      case m6 =>
        refine' BR.meth_mk ?a ?i ?l ?c ?k
        (case a => k_is); (case i => k_is); (case l => k_is); (case c => k_is); (case k => k_is)
    case err =>
      refine' ⟨_, _, BR.ErrAt.mk ?gC ?cls ?sa ?ga ?gg ?nn ?iC ?tC ?fn ?kC ?eC ?tyC ?hC ?isC ?sC⟩
      (case gC => k_is)
      case cls =>
        refine' BR.errcls_mk ?l
        (case l => k_is)
      (case sa => k_is)
      (case ga => k_is)
      (case gg => k_is)
      (case nn => k_is)
      (case iC => k_is)
      (case tC => k_is)
      case fn =>
        refine' BR.errfn_mk ?l ?c
        (case l => k_is); (case c => k_is)
      (case kC => k_is)
      (case eC => k_is)
      (case tyC => k_is)
      (case hC => k_is)
      (case isC => k_is)
      (case sC => first | rfl | k_is)
    case d11 =>
      refine' BR.def_mk ?a ?l ?c ?k
      (case a => k_is); (case l => k_is); (case c => k_is); (case k => k_is)
    case d12 =>
      refine' BR.def_mk ?a ?l ?c ?k
      (case a => k_is); (case l => k_is); (case c => k_is); (case k => k_is)
    case d13 =>
      refine' BR.def_mk ?a ?l ?c ?k
      (case a => k_is); (case l => k_is); (case c => k_is); (case k => k_is)
    case d14 =>
      refine' BR.def_mk ?a ?l ?c ?k
      (case a => k_is); (case l => k_is); (case c => k_is); (case k => k_is)
    case d15 =>
      refine' BR.def_mk ?a ?l ?c ?k
      (case a => k_is); (case l => k_is); (case c => k_is); (case k => k_is)
    case d17 =>
      refine' BR.def_mk ?a ?l ?c ?k
      (case a => k_is); (case l => k_is); (case c => k_is); (case k => k_is)
    case d21 =>
      refine' BR.def_mk ?a ?l ?c ?k
      (case a => k_is); (case l => k_is); (case c => k_is); (case k => k_is)
    case d25 =>
      refine' BR.def_mk ?a ?l ?c ?k
      (case a => k_is); (case l => k_is); (case c => k_is); (case k => k_is)
    case d26 =>
      refine' BR.def_mk ?a ?l ?c ?k
      (case a => k_is); (case l => k_is); (case c => k_is); (case k => k_is)
    case d27 =>
      refine' BR.def_mk ?a ?l ?c ?k
      (case a => k_is); (case l => k_is); (case c => k_is); (case k => k_is)
    case d28 =>
      refine' BR.def_mk ?a ?l ?c ?k
      (case a => k_is); (case l => k_is); (case c => k_is); (case k => k_is)
    case d29 =>
      refine' BR.def_mk ?a ?l ?c ?k
      (case a => k_is); (case l => k_is); (case c => k_is); (case k => k_is)
    case d30 =>
      refine' BR.def_mk ?a ?l ?c ?k
      (case a => k_is); (case l => k_is); (case c => k_is); (case k => k_is)
    case d31 =>
      refine' BR.def_mk ?a ?l ?c ?k
      (case a => k_is); (case l => k_is); (case c => k_is); (case k => k_is)
    case d32 =>
      refine' BR.def_mk ?a ?l ?c ?k
      (case a => k_is); (case l => k_is); (case c => k_is); (case k => k_is)
    case d33 =>
      refine' BR.def_mk ?a ?l ?c ?k
      (case a => k_is); (case l => k_is); (case c => k_is); (case k => k_is)
    case d34 =>
      refine' BR.def_mk ?a ?l ?c ?k
      (case a => k_is); (case l => k_is); (case c => k_is); (case k => k_is)
    case d35 =>
      refine' BR.def_mk ?a ?l ?c ?k
      (case a => k_is); (case l => k_is); (case c => k_is); (case k => k_is)
    case d36 =>
      refine' BR.def_mk ?a ?l ?c ?k
      (case a => k_is); (case l => k_is); (case c => k_is); (case k => k_is)
    case d38 =>
      refine' BR.def_mk ?a ?l ?c ?k
      (case a => k_is); (case l => k_is); (case c => k_is); (case k => k_is)
    case d39 =>
      refine' BR.def_mk ?a ?l ?c ?k
      (case a => k_is); (case l => k_is); (case c => k_is); (case k => k_is)
    case d40 =>
      refine' BR.def_mk ?a ?l ?c ?k
      (case a => k_is); (case l => k_is); (case c => k_is); (case k => k_is)
    case d41 =>
      refine' BR.def_mk ?a ?l ?c ?k
      (case a => k_is); (case l => k_is); (case c => k_is); (case k => k_is)
    case d43 =>
      refine' BR.def_mk ?a ?l ?c ?k
      (case a => k_is); (case l => k_is); (case c => k_is); (case k => k_is)
    case d44 =>
      refine' BR.def_mk ?a ?l ?c ?k
      (case a => k_is); (case l => k_is); (case c => k_is); (case k => k_is)
    case d45 =>
      refine' BR.def_mk ?a ?l ?c ?k
      (case a => k_is); (case l => k_is); (case c => k_is); (case k => k_is)
    case d46 =>
      refine' BR.def_mk ?a ?l ?c ?k
      (case a => k_is); (case l => k_is); (case c => k_is); (case k => k_is)
    case d47 =>
      refine' BR.def_mk ?a ?l ?c ?k
      (case a => k_is); (case l => k_is); (case c => k_is); (case k => k_is)
    case d48 =>
      refine' BR.def_mk ?a ?l ?c ?k
      (case a => k_is); (case l => k_is); (case c => k_is); (case k => k_is)
    case d49 =>
      refine' BR.def_mk ?a ?l ?c ?k
      (case a => k_is); (case l => k_is); (case c => k_is); (case k => k_is)
    case d50 =>
      refine' BR.def_mk ?a ?l ?c ?k
      (case a => k_is); (case l => k_is); (case c => k_is); (case k => k_is)
    case d51 =>
      refine' BR.def_mk ?a ?l ?c ?k
      (case a => k_is); (case l => k_is); (case c => k_is); (case k => k_is)
    case d52 =>
      refine' BR.def_mk ?a ?l ?c ?k
      (case a => k_is); (case l => k_is); (case c => k_is); (case k => k_is)
    case d53 =>
      refine' BR.def_mk ?a ?l ?c ?k
      (case a => k_is); (case l => k_is); (case c => k_is); (case k => k_is)
    case d54 =>
      refine' BR.def_mk ?a ?l ?c ?k
      (case a => k_is); (case l => k_is); (case c => k_is); (case k => k_is)
    case c_MAX_DAYS =>
      refine' BR.num_mk ?l
      (case l => k_is)
    case c_MAX_OWNED =>
      refine' BR.num_mk ?l
      (case l => k_is)
    case c_MAX_STATES =>
      refine' BR.num_mk ?l
      (case l => k_is)
    case c_MAX_ENTRIES =>
      refine' BR.num_mk ?l
      (case l => k_is)
    case c_MAX_LEVELS =>
      refine' BR.num_mk ?l
      (case l => k_is)
    (case z_isinstance => k_is)
    (case z_int => k_is)
    (case z_bool => k_is)
    (case z_tuple => k_is)
    (case z_list => k_is)
    (case z_len => k_is)
    (case z_all => k_is)
    (case z_enumerate => k_is)
    (case z_range => k_is)
    (case z_min => k_is)
    (case z_max => k_is)
    (case z_sum => k_is)
    (case z_dict => k_is)
    (case z_sorted => k_is)
    (case z_reversed => k_is)
    (case z_zip => k_is)
