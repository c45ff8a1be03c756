import PyProof.Rows.All
import Wide.All
import OpenK.AllK
import Wide.FinOn
import HandS.ForMost
import HandS.Exc
import HandS.TryOnly
import HandS.ExcOwn
import HandS.CallSlots
import HandS.WordsExc
import HandS.Lambda
import HandS.Wide
import HandS.Deep
import HandS.TupAny
import HandS.TupMul
import HandS.IsInst
import HandS.Flow
import HandS.ExcCtx
import HandS.HotCalls
import HandS.ExcIs
import HandS.ExcField
import HandS.TupLe
import KE.SortData
import KE.DataMinMax
import HandS.Zip
import KE.GoesMore
import HandS.Comp
import HandS.Conv
import HandS.SetFor
import HandS.Rev
import HandS.Style
import HandS.EndTab
import HandS.EndBits
import HandS.HeadWalk
import HandS.Strs
import KE.KDictDisplayH
import HandS.Small
import PySem.Challenge.RW_letterspiled_k41_whole_round_words
set_option Elab.async false
set_option linter.all false
set_option maxRecDepth 100000
/-! DL: a data layer over HandS: pure data, a store of mutable cells, and one rule a construct. -/
namespace DL
open PySem PySem.Spec PyProof.Rows L2

/-- pure data -/
inductive D where
  | non | bl (b : Bool) | int (i : Int) | str (s : Str) | tup (l : List D) | lst (l : List D) | fn (i : Nat) | scr (l : List Int)
structure Exn where
  c : Nat
  at' : Option (Str × D)
/-- what a slot holds: pure data, a cell of the store, or the exception that is handled -/
inductive SV where
  | d (x : D) | r (i : Nat) | x (x : Exn)
/-- what an expression gives: pure data, a list that is new, or a cell -/
inductive W where
  | d (x : D) | n (l : List D) | r (i : Nat)
inductive Cell where
  | dead | lst (l : List D) | dct (l : List (List Int × D))
def Cell.live : Cell → Bool
  | .dead => false
  | .lst _ => true
  | .dct _ => true
abbrev Stor := List Cell
abbrev Envi := List (Option SV)
inductive Res (α : Type) where
  | ok (a : α) (st : Stor) | err (x : Exn) (st : Stor) | no
def Res.bind {α β : Type} : Res α → (α → Stor → Res β) → Res β
  | .ok a st, k => k a st
  | .err x st, _ => .err x st
  | .no, _ => .no

structure G where
  K : PySem.W.Frag
  fa : Nat → Addr
  ca : Nat → Addr
  T : List (Addr × Str)
  /-- the exception that is handled: its place, class, dict -/
  ex : Option (Addr × Value × Option Addr) := none

/-- where the cells stand, and the addresses that no data may speak of -/
structure Mm where
  ad : List Addr
  hid : List Addr
def Mu (m : Mm) (st : Stor) (a : Addr) : Prop := (∃ (i : Nat) (c : Cell), m.ad[i]? = some a ∧ st[i]? = some c ∧ c.live = true) ∨ a ∈ m.hid

def WrT (K : PySem.W.Frag) (a : Addr) (xs : List V) : Prop :=
  ∃ (o : Obj) (its : Array Value) (n : Nat), K.lookup a = some o ∧ o.cls = .type "tuple" ∧ o.data = .seq its n ∧ its.size ≤ sizeLine ∧ Vals xs its.toList
def LsR (m : Mm) (st : Stor) (H : Hp) (a : Addr) (xs : List V) : Prop := H a = some (.lst xs) ∧ ¬ Mu m st a
/-- the script: locked -/
def WrL (K : PySem.W.Frag) (a : Addr) (xs : List V) : Prop :=
  ∃ (o : Obj) (its : Array Value) (n : Nat), K.lookup a = some o ∧ o.cls = .type "list" ∧ o.dict = none ∧ o.data = .seq its n ∧ its.size ≤ sizeLine ∧ Vals xs its.toList
def ScR (K : PySem.W.Frag) (m : Mm) (st : Stor) (H : Hp) (a : Addr) (xs : List V) : Prop := (Rd H a (.lst xs) ∧ ¬ Mu m st a) ∨ WrL K a xs
def TpR (K : PySem.W.Frag) (m : Mm) (st : Stor) (H : Hp) (a : Addr) (xs : List V) : Prop := (H a = some (.tup xs) ∧ ¬ Mu m st a) ∨ (WrT K a xs ∧ ∃ x ∈ xs, ∀ n : Int, x ≠ .int n)
theorem LsR.sq {K : PySem.W.Frag} {m st H a xs} (h : LsR m st H a xs) : SqL K H a xs := .inl (.inl h.1)
theorem ScR.sq {K : PySem.W.Frag} {m st H a xs} (h : ScR K m st H a xs) : SqL K H a xs := h.elim (fun h => .inl h.1) .inr
theorem TpR.sq {K : PySem.W.Frag} {m st H a xs} (h : TpR K m st H a xs) : SqT K H a xs := h.elim (fun h => .inl (.inl h.1)) fun h => .inr h.1

mutual
inductive Rel (g : G) (m : Mm) (st : Stor) (H : Hp) : V → D → Prop
  | non : Rel g m st H .non .non
  | bl (b : Bool) : Rel g m st H (.bl b) (.bl b)
  | int (i : Int) : Rel g m st H (.int i) (.int i)
  | str (x : Str) : Rel g m st H (.str x) (.str x)
  | tup {a : Addr} {xs : List V} {ds : List D} : TpR g.K m st H a xs → RelL g m st H xs ds → Rel g m st H (.ref a) (.tup ds)
  | lst {a : Addr} {xs : List V} {ds : List D} : LsR m st H a xs → RelL g m st H xs ds → Rel g m st H (.ref a) (.lst ds)
  | fn (i : Nat) : Rel g m st H (.ref (g.fa i)) (.fn i)
  | scr {a : Addr} {ns : List Int} : ScR g.K m st H a (ns.map V.int) → Rel g m st H (.ref a) (.scr ns)
inductive RelL (g : G) (m : Mm) (st : Stor) (H : Hp) : List V → List D → Prop
  | nil : RelL g m st H [] []
  | cons {v : V} {vs : List V} {d : D} {ds : List D} : Rel g m st H v d → RelL g m st H vs ds → RelL g m st H (v :: vs) (d :: ds)
end

structure Ext (m : Mm) (st : Stor) (H : Hp) (m' : Mm) (st' : Stor) (H' : Hp) : Prop where
  keep : ∀ a o, H a = some o → (∀ ps, o ≠ .tbl ps) → ¬ Mu m st a → H' a = some o ∧ ¬ Mu m' st' a
  some : ∀ a, H a ≠ none → H' a ≠ none
theorem Ext.refl (m st H) : Ext m st H m st H := ⟨fun _ _ h _ n => ⟨h, n⟩, fun _ h => h⟩
theorem Ext.trans {m st H m1 st1 H1 m2 st2 H2} (a : Ext m st H m1 st1 H1) (b : Ext m1 st1 H1 m2 st2 H2) : Ext m st H m2 st2 H2 :=
  ⟨fun x o h n k => let ⟨h1, k1⟩ := a.keep x o h n k; b.keep x o h1 n k1, fun x h => b.some x (a.some x h)⟩
theorem Ext.none {m st H m' st' H'} (e : Ext m st H m' st' H') {a : Addr} (h : H' a = none) : H a = none := by
  cases q : H a with
  | none => rfl
  | some o => exact absurd h (e.some a (by rw [q]; exact fun z => nomatch z))

theorem LsR.ext {m st H m' st' H' a xs} (e : Ext m st H m' st' H') (h : LsR m st H a xs) : LsR m' st' H' a xs :=
  e.keep a _ h.1 (fun ps z => nomatch z) h.2
theorem ScR.ext {K : PySem.W.Frag} {m st H m' st' H' a xs} (e : Ext m st H m' st' H') (h : ScR K m st H a xs) : ScR K m' st' H' a xs := by
  rcases h with ⟨h | ⟨o, h⟩, n⟩ | h
  · obtain ⟨h1, n1⟩ := e.keep a _ h (fun ps z => nomatch z) n
    exact .inl ⟨.inl h1, n1⟩
  · obtain ⟨h1, n1⟩ := e.keep a _ h (fun ps z => nomatch z) n
    exact .inl ⟨.inr ⟨o, h1⟩, n1⟩
  · exact .inr h
theorem TpR.ext {K : PySem.W.Frag} {m st H m' st' H' a xs} (e : Ext m st H m' st' H') (h : TpR K m st H a xs) : TpR K m' st' H' a xs := by
  rcases h with ⟨h, n⟩ | h
  · exact .inl (e.keep a _ h (fun ps z => nomatch z) n)
  · exact .inr h

section
variable {g : G} {m m' : Mm} {st st' : Stor} {H H' : Hp}
mutual
theorem Rel.ext (e : Ext m st H m' st' H') : ∀ {v : V} {d : D}, Rel g m st H v d → Rel g m' st' H' v d
  | _, _, .non => .non
  | _, _, .bl b => .bl b
  | _, _, .int i => .int i
  | _, _, .str x => .str x
  | _, _, .tup h r => .tup (h.ext e) (RelL.ext e r)
  | _, _, .lst h r => .lst (h.ext e) (RelL.ext e r)
  | _, _, .fn i => .fn i
  | _, _, .scr h => .scr (h.ext e)
theorem RelL.ext (e : Ext m st H m' st' H') : ∀ {vs : List V} {ds : List D}, RelL g m st H vs ds → RelL g m' st' H' vs ds
  | _, _, .nil => .nil
  | _, _, .cons r t => .cons (Rel.ext e r) (RelL.ext e t)
end
end

section
variable {g : G} {m : Mm} {st : Stor} {H : Hp}
theorem RelL.length : ∀ {vs : List V} {ds : List D}, RelL g m st H vs ds → vs.length = ds.length
  | _, _, .nil => rfl
  | _, _, .cons _ t => by rw [List.length_cons, List.length_cons, RelL.length t]
theorem RelL.get : ∀ {vs : List V} {ds : List D} (i : Nat) {d : D}, RelL g m st H vs ds → ds[i]? = some d → ∃ v, vs[i]? = some v ∧ Rel g m st H v d
  | _, _, i, _, .nil, e => by simp at e
  | _, _, 0, _, .cons r _, e => by
    simp at e
    subst e
    exact ⟨_, rfl, r⟩
  | _, _, i + 1, _, .cons _ t, e => by
    obtain ⟨v, h1, h2⟩ := RelL.get i t (by simpa using e)
    exact ⟨v, by simpa using h1, h2⟩
theorem RelL.get' : ∀ {vs : List V} {ds : List D} (i : Nat) {v : V}, RelL g m st H vs ds → vs[i]? = some v → ∃ d, ds[i]? = some d ∧ Rel g m st H v d
  | _, _, i, _, .nil, e => by simp at e
  | _, _, 0, _, .cons r _, e => by
    simp at e
    subst e
    exact ⟨_, rfl, r⟩
  | _, _, i + 1, _, .cons _ t, e => by
    obtain ⟨v, h1, h2⟩ := RelL.get' i t (by simpa using e)
    exact ⟨v, by simpa using h1, h2⟩
theorem RelL.append : ∀ {vs us : List V} {ds es : List D}, RelL g m st H vs ds → RelL g m st H us es → RelL g m st H (vs ++ us) (ds ++ es)
  | _, _, _, _, .nil, s => s
  | _, _, _, _, .cons r t, s => .cons r (RelL.append t s)
theorem RelL.take : ∀ {vs : List V} {ds : List D} (n : Nat), RelL g m st H vs ds → RelL g m st H (vs.take n) (ds.take n)
  | _, _, 0, _ => .nil
  | _, _, _ + 1, .nil => .nil
  | _, _, n + 1, .cons r t => .cons r (RelL.take n t)
theorem RelL.drop : ∀ {vs : List V} {ds : List D} (n : Nat), RelL g m st H vs ds → RelL g m st H (vs.drop n) (ds.drop n)
  | _, _, 0, r => r
  | _, _, _ + 1, .nil => .nil
  | _, _, n + 1, .cons _ t => RelL.drop n t
theorem RelL.set {x : V} {d : D} (r : Rel g m st H x d) : ∀ {xs : List V} {ds : List D} (i : Nat), RelL g m st H xs ds → RelL g m st H (xs.set i x) (ds.set i d)
  | _, _, _, .nil => .nil
  | _, _, 0, .cons _ t => .cons r t
  | _, _, i + 1, .cons q t => .cons q (RelL.set r i t)
theorem RelL.reverse {vs : List V} {ds : List D} (h : RelL g m st H vs ds) : RelL g m st H vs.reverse ds.reverse := by
  induction vs generalizing ds with
  | nil => cases h; exact .nil
  | cons v vs ih =>
    cases h with
    | cons r t =>
      rw [List.reverse_cons, List.reverse_cons]
      exact (ih t).append (.cons r .nil)
theorem RelL.ints : ∀ {vs : List V} {ns : List Int}, RelL g m st H vs (ns.map D.int) → vs = ns.map V.int
  | _, [], h => by cases h; rfl
  | _, n :: ns, h => by
    cases h with
    | cons r t =>
      cases r
      rw [RelL.ints t]
      rfl
theorem RelL.of_ints : ∀ {ns : List Int}, RelL g m st H (ns.map V.int) (ns.map D.int)
  | [] => .nil
  | _ :: _ => .cons (.int _) RelL.of_ints
theorem RelL.bls : ∀ {vs : List V} {ns : List Bool}, RelL g m st H vs (ns.map D.bl) → vs = ns.map V.bl
  | _, [], h => by cases h; rfl
  | _, n :: ns, h => by
    cases h with
    | cons r t =>
      cases r
      rw [RelL.bls t]
      rfl
end

/-- a dict's keys and values -/
def DctR (g : G) (m : Mm) (st : Stor) (H : Hp) (vs : List (List Key × V)) (kvs : List (List Int × D)) : Prop := (vs.map fun p => p.1) = (kvs.map fun p => p.1.map Sum.inl) ∧ RelL g m st H (vs.map fun p => p.2) (kvs.map fun p => p.2)
theorem DctR.ext {g : G} {m st H m' st' H'} (e : Ext m st H m' st' H') {vs kvs} (h : DctR g m st H vs kvs) : DctR g m' st' H' vs kvs := ⟨h.1, h.2.ext e⟩
/-- a cell of the store -/
def CellR (g : G) (m : Mm) (st : Stor) (H : Hp) (a : Addr) : Cell → Prop
  | .dead => True
  | .lst ds => ∃ vs, H a = some (.lst vs) ∧ RelL g m st H vs ds
  | .dct kvs => ∃ vs, H a = some (.dT vs) ∧ DctR g m st H vs kvs
/-- a hidden object: a list or a dict -/
abbrev HdO (o : Option HO) : Prop := (∃ xs, o = some (.lst xs)) ∨ ∃ vs, o = some (.dT vs)
/-- the world: the store's cells stand in the heap -/
structure Wd (g : G) (m : Mm) (st : Stor) (H : Hp) : Prop where
  len : m.ad.length = st.length
  nd : m.ad.Nodup
  there : ∀ a ∈ m.ad, H a ≠ none
  hids : ∀ a ∈ m.hid, HdO (H a)
  dj : ∀ a ∈ m.ad, a ∉ m.hid
  cells : ∀ (i : Nat) (a : Addr) (c : Cell), m.ad[i]? = some a → st[i]? = some c → CellR g m st H a c
  tabs : LamX.Tabs g.T H

theorem Wd.hn {g : G} {m st H a} (w : Wd g m st H) (h : a ∈ m.hid) : H a ≠ none := by
  rcases w.hids a h with ⟨xs, e⟩ | ⟨xs, e⟩ <;> rw [e] <;> exact fun z => nomatch z
theorem Mu.there {g : G} {m st H a} (w : Wd g m st H) (h : Mu m st a) : H a ≠ none := by
  rcases h with ⟨i, c, h1, _⟩ | h
  · exact w.there a (List.mem_of_getElem? h1)
  · exact w.hn h

/-- how an exception's class and dict stand for it -/
def ExnR (g : G) (m : Mm) (st : Stor) (H : Hp) (cls : Value) (d : Option Addr) (x : Exn) : Prop :=
  cls = .ref (g.ca x.c) ∧ match x.at' with
    | none => d = none
    | some (f, y) => ∃ dx v, d = some dx ∧ H dx = some (.xd [(f, v)]) ∧ ¬ Mu m st dx ∧ Rel g m st H v y
theorem ExnR.ext {g : G} {m st H m' st' H'} (e : Ext m st H m' st' H') {cls : Value} {d : Option Addr} {x : Exn} (h : ExnR g m st H cls d x) : ExnR g m' st' H' cls d x := by
  refine ⟨h.1, ?_⟩
  have h := h.2
  cases q : x.at' with
  | none => rw [q] at h; exact h
  | some fy =>
    rw [q] at h
    obtain ⟨dx, v, k1, k2, k3, k4⟩ := h
    obtain ⟨p1, p2⟩ := e.keep dx _ k2 (fun ps z => nomatch z) k3
    exact ⟨dx, v, k1, p1, p2, k4.ext e⟩
def RelS (g : G) (m : Mm) (st : Stor) (H : Hp) (v : V) : SV → Prop
  | .d x => Rel g m st H v x
  | .r i => ∃ a, v = .ref a ∧ m.ad[i]? = some a
  | .x x => ∃ a cls d, g.ex = some (a, cls, d) ∧ v = .ref a ∧ ExnR g m st H cls d x
def Mm.hide (m : Mm) (a : Addr) : Mm := ⟨m.ad, a :: m.hid⟩
/-- a result, as it may be kept while others are reckoned -/
def RelW0 (g : G) (m : Mm) (st : Stor) (H : Hp) (v : V) : W → Prop
  | .d x => Rel g m st H v x
  | .n ds => ∃ a xs, v = .ref a ∧ H a = some (.lst xs) ∧ RelL g m st H xs ds ∧ ¬ Mu m st a
  | .r i => ∃ a, v = .ref a ∧ m.ad[i]? = some a
/-- a result as it comes: a new list is spoken of by nothing else -/
def RelW (g : G) (m : Mm) (st : Stor) (H0 H : Hp) (v : V) : W → Prop
  | .d x => Rel g m st H v x
  | .n ds => ∃ a xs, v = .ref a ∧ H a = some (.lst xs) ∧ RelL g (m.hide a) st H xs ds ∧ ¬ Mu m st a ∧ H0 a = none ∧ Wd g (m.hide a) st H
  | .r i => ∃ a, v = .ref a ∧ m.ad[i]? = some a

structure EnvR (g : G) (m : Mm) (st : Stor) (H : Hp) (σ : L2.St) (env : Envi) : Prop where
  len : σ.length = env.length
  at_ : ∀ (i : Nat) (s : SV), env[i]? = some (some s) → ∃ v, σ[i]? = some (some v) ∧ RelS g m st H v s

def Pre (m m' : Mm) : Prop := (∃ l, m'.ad = m.ad ++ l) ∧ m'.hid = m.hid
theorem Pre.refl (m) : Pre m m := ⟨⟨[], by simp⟩, rfl⟩
theorem Pre.trans {a b c} (h : Pre a b) (k : Pre b c) : Pre a c := by
  obtain ⟨⟨l, h⟩, e⟩ := h
  obtain ⟨⟨l2, h2⟩, e2⟩ := k
  exact ⟨⟨l ++ l2, by rw [h2, h, List.append_assoc]⟩, e2.trans e⟩
/-- the cells' places are among those of the other -/
def Pad (m m' : Mm) : Prop := ∃ l, m'.ad = m.ad ++ l
theorem Pre.pad {m m' : Mm} (h : Pre m m') : Pad m m' := h.1
theorem Pad.get {m m' : Mm} (h : Pad m m') {i : Nat} {a : Addr} (e : m.ad[i]? = some a) : m'.ad[i]? = some a := by
  obtain ⟨l, h⟩ := h
  have hi : i < m.ad.length := by
    rcases Nat.lt_or_ge i m.ad.length with h | h
    · exact h
    · rw [List.getElem?_eq_none h] at e; cases e
  rw [h, List.getElem?_append_left hi]
  exact e

theorem RelS.ext {g : G} {m st H m' st' H'} (e : Ext m st H m' st' H') (p : Pad m m') {v : V} : ∀ {s : SV}, RelS g m st H v s → RelS g m' st' H' v s
  | .d _, h => Rel.ext e h
  | .r _, ⟨a, h1, h2⟩ => ⟨a, h1, p.get h2⟩
  | .x _, ⟨a, cls, d, h1, h2, h3⟩ => ⟨a, cls, d, h1, h2, h3.ext e⟩
theorem EnvR.extP {g : G} {m st H m' st' H' σ env} (h : EnvR g m st H σ env) (e : Ext m st H m' st' H') (p : Pad m m') : EnvR g m' st' H' σ env :=
  ⟨h.len, fun i s q => let ⟨v, a, b⟩ := h.at_ i s q; ⟨v, a, b.ext e p⟩⟩
theorem EnvR.ext {g : G} {m st H m' st' H' σ env} (h : EnvR g m st H σ env) (e : Ext m st H m' st' H') (p : Pre m m') : EnvR g m' st' H' σ env := h.extP e p.pad

structure Step (g : G) (m : Mm) (st : Stor) (H : Hp) (m' : Mm) (st' : Stor) (H' : Hp) : Prop where
  wd : Wd g m' st' H'
  ext : Ext m st H m' st' H'
  pre : Pre m m'
  hid : ∀ a ∈ m.hid, H' a = H a
theorem Step.refl {g : G} {m st H} (w : Wd g m st H) : Step g m st H m st H := ⟨w, .refl _ _ _, .refl _, fun _ _ => rfl⟩
theorem Step.trans {g : G} {m st H m1 st1 H1 m2 st2 H2} (a : Step g m st H m1 st1 H1) (b : Step g m1 st1 H1 m2 st2 H2) : Step g m st H m2 st2 H2 :=
  ⟨b.wd, a.ext.trans b.ext, a.pre.trans b.pre, fun x h => (b.hid x (a.pre.2 ▸ h)).trans (a.hid x h)⟩

structure StepP (g : G) (m : Mm) (st : Stor) (H : Hp) (m' : Mm) (st' : Stor) (H' : Hp) : Prop where
  wd : Wd g m' st' H'
  ext : Ext m st H m' st' H'
  pad : Pad m m'
  sub : ∀ a ∈ m.hid, a ∈ m'.hid
  hid : ∀ a ∈ m.hid, H' a = H a
theorem Pad.refl (m) : Pad m m := ⟨[], by simp⟩
theorem Pad.trans {a b c : Mm} (h : Pad a b) (k : Pad b c) : Pad a c := by
  obtain ⟨l, h⟩ := h
  obtain ⟨l2, h2⟩ := k
  exact ⟨l ++ l2, by rw [h2, h, List.append_assoc]⟩
theorem Step.p {g : G} {m st H m' st' H'} (s : Step g m st H m' st' H') : StepP g m st H m' st' H' := ⟨s.wd, s.ext, s.pre.pad, fun a h => by rw [s.pre.2]; exact h, s.hid⟩
theorem StepP.trans {g : G} {m st H m1 st1 H1 m2 st2 H2} (a : StepP g m st H m1 st1 H1) (b : StepP g m1 st1 H1 m2 st2 H2) : StepP g m st H m2 st2 H2 :=
  ⟨b.wd, a.ext.trans b.ext, a.pad.trans b.pad, fun x h => b.sub x (a.sub x h), fun x h => (b.hid x (a.sub x h)).trans (a.hid x h)⟩
/-- what a result asks of what follows -/
def Post {α β : Type} (g : G) (m : Mm) (σ : L2.St) (Wx : WX) (st : Stor) (H : Hp) (RA : Stor → Hp → Hp → β → α → Prop) (r : Res α) (Q : β → Hp → Prop) : Prop :=
  match r with
  | .ok a st' => ∀ b H', Step g m st H m st' H' → RA st' H H' b a → Q b H'
  | .err x st' => ∀ c d H', Step g m st H m st' H' → ExnR g m st' H' c d x → Wx c d σ H'
  | .no => False

/-- the relation of a result hangs on the first heap by what is not there alone -/
def Back {α β : Type} (RA : Stor → Hp → Hp → β → α → Prop) : Prop := ∀ st H0 H1 H b a, (∀ x, H1 x = none → H0 x = none) → RA st H1 H b a → RA st H0 H b a

theorem Post.bind {α β α' β' : Type} {g : G} {m σ Wx st H} {RA : Stor → Hp → Hp → β → α → Prop} {RB : Stor → Hp → Hp → β' → α' → Prop} {r : Res α} {k : α → Stor → Res α'} {Q : β' → Hp → Prop} {Q1 : β → Hp → Prop}
    (hB : Back RB) (h : Post g m σ Wx st H RB (r.bind k) Q)
    (hk : ∀ a st', r = .ok a st' → ∀ b H', Step g m st H m st' H' → RA st' H H' b a → Post g m σ Wx st' H' RB (k a st') Q → Q1 b H') : Post g m σ Wx st H RA r Q1 := by
  cases r with
  | no => exact h
  | err x st' => exact h
  | ok a st' =>
    intro b H' s ra
    refine hk a st' rfl b H' s ra ?_
    have h' : Post g m σ Wx st H RB (k a st') Q := h
    cases q : k a st' with
    | no => rw [q] at h'; exact h'
    | err x st2 =>
      rw [q] at h'
      intro c d H2 s2 e2
      exact h' c d H2 (s.trans s2) e2
    | ok a2 st2 =>
      rw [q] at h'
      intro b2 H2 s2 r2
      exact h' b2 H2 (s.trans s2) (hB _ _ _ _ _ _ (fun x z => s.ext.none z) r2)

abbrev RW_ (g : G) (m : Mm) : Stor → Hp → Hp → V → W → Prop := fun st H0 H v w => RelW g m st H0 H v w
theorem back_w {g : G} {m : Mm} : Back (RW_ g m) := fun st H0 H1 H v w h r => by
  cases w with
  | d x => exact r
  | r i => exact r
  | n ds =>
    obtain ⟨a, xs, h1, h2, h3, h4, h5, h6⟩ := r
    exact ⟨a, xs, h1, h2, h3, h4, h a h5, h6⟩
abbrev RD_ (g : G) (m : Mm) : Stor → Hp → Hp → V → D → Prop := fun st _ H v d => Rel g m st H v d
theorem back_d {g : G} {m : Mm} : Back (RD_ g m) := fun _ _ _ _ _ _ _ r => r
abbrev RB_ : Stor → Hp → Hp → Bool → Bool → Prop := fun _ _ _ b c => b = c
theorem back_b : Back RB_ := fun _ _ _ _ _ _ _ r => r
/-- a list of results: pure data or cells -/
abbrev RL_ (g : G) (m : Mm) : Stor → Hp → Hp → List V → List D → Prop := fun st _ H vs ds => RelL g m st H vs ds
theorem back_l {g : G} {m : Mm} : Back (RL_ g m) := fun _ _ _ _ _ _ _ r => r

/-! ### new objects, stores -/
theorem Mu.fresh {g : G} {m st H p} (w : Wd g m st H) (h : H p = none) : ¬ Mu m st p := fun q => q.there w h
theorem ext_new {g : G} {m st H p o} (w : Wd g m st H) (h : H p = none) : Ext m st H m st (upd H p o) :=
  ⟨fun a q e _ n => ⟨by rw [upd_ne (ne_of_none e h)]; exact e, n⟩, fun a k => by
    unfold upd
    split
    · exact fun z => nomatch z
    · exact k⟩
theorem wd_new {g : G} {m st H p o} (w : Wd g m st H) (h : H p = none) : Wd g m st (upd H p o) where
  len := w.len
  nd := w.nd
  there := fun a ha => (ext_new w h).some a (w.there a ha)
  hids := fun a ha => by rw [upd_ne (fun z => w.hn ha (by rw [z]; exact h))]; exact w.hids a ha
  dj := w.dj
  cells := fun i a c h1 h2 => by
    have q := w.cells i a c h1 h2
    cases c with
    | dead => exact True.intro
    | lst ds =>
      obtain ⟨vs, e, r⟩ := q
      exact ⟨vs, by rw [upd_ne (ne_of_none e h)]; exact e, r.ext (ext_new w h)⟩
    | dct ds =>
      obtain ⟨vs, e, r⟩ := q
      exact ⟨vs, by rw [upd_ne (ne_of_none e h)]; exact e, r.ext (ext_new w h)⟩
  tabs := w.tabs.ext fun b o e => by rw [upd_ne (ne_of_none e h)]; exact e
theorem step_new {g : G} {m st H p o} (w : Wd g m st H) (h : H p = none) : Step g m st H m st (upd H p o) := ⟨wd_new w h, ext_new w h, .refl _, fun a ha => upd_ne (fun z => w.hn ha (by rw [z]; exact h))⟩
theorem rel_newT {g : G} {m st H p xs ds} (w : Wd g m st H) (h : H p = none) (r : RelL g m st H xs ds) : Rel g m st (upd H p (.tup xs)) (.ref p) (.tup ds) :=
  .tup (.inl ⟨upd_same, Mu.fresh w h⟩) (r.ext (ext_new w h))
/- the list that grows is hidden from all data -/
section
variable {g : G} {m : Mm} {st : Stor} {H : Hp} {p : Addr}
theorem mu_hide {a : Addr} : Mu (m.hide p) st a ↔ a = p ∨ Mu m st a := by
  unfold Mu Mm.hide
  constructor
  · rintro (h | h)
    · exact .inr (.inl h)
    · rcases List.mem_cons.mp h with h | h
      · exact .inl h
      · exact .inr (.inr h)
  · rintro (h | h | h)
    · exact .inr (List.mem_cons.mpr (.inl h))
    · exact .inl h
    · exact .inr (List.mem_cons_of_mem _ h)
theorem cell_ext {m' st' H'} (e : Ext m st H m' st' H') {a : Addr} (ha : H' a = H a) : ∀ {c : Cell}, CellR g m st H a c → CellR g m' st' H' a c
  | .dead, _ => trivial
  | .lst ds, ⟨vs, h1, h2⟩ => ⟨vs, ha.trans h1, h2.ext e⟩
  | .dct ds, ⟨vs, h1, h2⟩ => ⟨vs, ha.trans h1, h2.ext e⟩
/-- a new list, hidden -/
theorem stepP_hide {o : List V} (w : Wd g m st H) (hp : H p = none) : StepP g m st H (m.hide p) st (upd H p (.lst o)) := by
  have e : Ext m st H (m.hide p) st (upd H p (.lst o)) := ⟨fun a q h n k => ⟨by rw [upd_ne (ne_of_none h hp)]; exact h, fun z => (mu_hide.mp z).elim (fun z => ne_of_none h hp z) k⟩, (ext_new w hp).some⟩
  refine ⟨⟨w.len, w.nd, fun a ha => e.some a (w.there a ha), fun a ha => ?_, fun a ha hm => ?_, fun i a c h1 h2 => ?_, (wd_new w hp).tabs⟩, e, .refl _, fun a ha => List.mem_cons_of_mem _ ha, fun a ha => upd_ne (fun z => w.hn ha (by rw [z]; exact hp))⟩
  · rcases List.mem_cons.mp ha with z | z
    · subst z; exact .inl ⟨o, upd_same⟩
    · rw [upd_ne (fun e => w.hn z (by rw [e]; exact hp))]; exact w.hids a z
  · rcases List.mem_cons.mp hm with z | z
    · exact w.there a ha (by rw [z]; exact hp)
    · exact w.dj a ha z
  · have ne : a ≠ p := fun z => w.there a (List.mem_of_getElem? h1) (by rw [z]; exact hp)
    exact cell_ext e (upd_ne ne) (w.cells i a c h1 h2)
/-- the hidden list is written -/
theorem ext_hid {xs ys : List V} (hm : p ∈ m.hid) (h : H p = some (.lst xs)) : Ext m st H m st (upd H p (.lst ys)) := ⟨fun a q h2 n k => ⟨by rw [upd_ne (fun z => k (.inr (by rw [z]; exact hm)))]; exact h2, k⟩, fun a k => by
    unfold upd
    split
    · exact fun z => nomatch z
    · exact k⟩
theorem wd_hid {xs ys : List V} (w : Wd g m st H) (hm : p ∈ m.hid) (hn : p ∉ m.ad) (h : H p = some (.lst xs)) : Wd g m st (upd H p (.lst ys)) := by
  have e : Ext m st H m st (upd H p (.lst ys)) := ext_hid hm h
  refine ⟨w.len, w.nd, fun a ha => e.some a (w.there a ha), fun a ha => ?_, w.dj, fun i a c h1 h2 => ?_, ?_⟩
  · by_cases z : a = p
    · subst z; exact .inl ⟨ys, upd_same⟩
    · rw [upd_ne z]; exact w.hids a ha
  · have ne : a ≠ p := fun z => hn (by rw [← z]; exact List.mem_of_getElem? h1)
    exact cell_ext e (upd_ne ne) (w.cells i a c h1 h2)
  · intro q hq
    obtain ⟨ps, t1, t2, t3⟩ := w.tabs q hq
    refine ⟨ps, by rw [upd_ne (fun z => by rw [z, h] at t1; cases t1)]; exact t1, t2, fun pos cv hc => ?_⟩
    obtain ⟨cc, e1, e2⟩ := t3 pos cv hc
    exact ⟨cc, e1, by rw [upd_ne (fun z => by rw [z, h] at e2; unfold LamX.CodeO at e2; cases e2)]; exact e2⟩
/-- it is seen again -/
theorem ext_unhide : Ext (m.hide p) st H m st H := ⟨fun a q h n k => ⟨h, fun z => k (mu_hide.mpr (.inr z))⟩, fun _ h => h⟩
theorem wd_unhide (w : Wd g (m.hide p) st H) : Wd g m st H :=
  ⟨w.len, w.nd, w.there, fun a ha => w.hids a (List.mem_cons_of_mem _ ha), fun a ha hm => w.dj a ha (List.mem_cons_of_mem _ hm), fun i a c h1 h2 => cell_ext ext_unhide rfl (w.cells i a c h1 h2), w.tabs⟩
end
theorem RelW.w0 {g : G} {m st H0 H v} : ∀ {w : W}, RelW g m st H0 H v w → RelW0 g m st H v w
  | .d _, r => r
  | .r _, r => r
  | .n _, ⟨a, xs, h1, h2, h3, h4, _⟩ => ⟨a, xs, h1, h2, h3.ext ext_unhide, h4⟩
theorem RelW0.ext {g : G} {m st H st' H' v} (e : Ext m st H m st' H') : ∀ {w : W}, RelW0 g m st H v w → RelW0 g m st' H' v w
  | .d _, r => Rel.ext e r
  | .n _, ⟨a, xs, h1, h2, h3, h4⟩ => let ⟨k1, k2⟩ := e.keep a _ h2 (fun ps z => nomatch z) h4; ⟨a, xs, h1, k1, h3.ext e, k2⟩
  | .r _, r => r
/-- pure data of what an expression gave -/
def W.toD : W → Option D
  | .d x => some x
  | .n l => some (.lst l)
  | .r _ => none
theorem RelW0.toD {g : G} {m st H v} : ∀ {w : W} {x : D}, RelW0 g m st H v w → w.toD = some x → Rel g m st H v x
  | .d y, x, r, e => by
    cases e
    exact r
  | .n ds, x, r, e => by
    cases e
    obtain ⟨a, xs, rfl, h2, h3, h5⟩ := r
    exact .lst ⟨h2, h5⟩ h3
  | .r i, x, r, e => by cases e
def W.sv : W → SV
  | .d x => .d x
  | .n l => .d (.lst l)
  | .r i => .r i
theorem RelW0.sv {g : G} {m st H v} : ∀ {w : W}, RelW0 g m st H v w → RelS g m st H v w.sv
  | .d y, r => r
  | .n ds, r => RelW0.toD (w := .n ds) r rfl
  | .r i, r => r
theorem RelW.toD {g : G} {m st H0 H v} {w : W} {x : D} (r : RelW g m st H0 H v w) (e : w.toD = some x) : Rel g m st H v x := r.w0.toD e
theorem RelW.sv {g : G} {m st H0 H v} {w : W} (r : RelW g m st H0 H v w) : RelS g m st H v w.sv := r.w0.sv

theorem rel_newL {g : G} {m st H p xs ds} (w : Wd g m st H) (h : H p = none) (r : RelL g m st H xs ds) : RelW g m st H (upd H p (.lst xs)) (.ref p) (.n ds) :=
  ⟨p, xs, rfl, upd_same, r.ext (stepP_hide (o := xs) w h).ext, Mu.fresh w h, h, (stepP_hide w h).wd⟩

/-! ### the judgements -/
abbrev Den := Envi → Stor → Res W
abbrev DenB := Envi → Stor → Res Bool
abbrev DenL := Envi → Stor → Res (List D)
def Res.ofO {α : Type} (o : Option α) (st : Stor) : Res α := match o with
  | some a => .ok a st
  | none => .no
/-- pure data, or nothing -/
def pureD (f : Den) : Envi → Stor → Res D := fun env st => (f env st).bind fun w st => .ofO w.toD st
theorem Post.d {g : G} {m σ Wx st H} {r : Res W} {Q : V → Hp → Prop} (h : Post g m σ Wx st H (RD_ g m) (r.bind fun w st => .ofO w.toD st) Q) : Post g m σ Wx st H (RW_ g m) r Q := by
  refine Post.bind back_d h fun w st' e b H' s r q => ?_
  cases z : w.toD with
  | none => rw [z] at q; exact q.elim
  | some x =>
    rw [z] at q
    exact q b H' (.refl s.wd) (r.toD z)
end DL

/-! DL: expressions. -/
namespace DL
open PySem PySem.Spec PyProof.Rows L2

abbrev Calls := Nat → List SV → Stor → Res W
/-- the def that calls what it gets and tells the errors: its place among the defs, name, text, local names, the slot of the error's name, the class that it catches, what it makes of an error, what it returns else -/
structure ErrI where
  i : Nat
  x : Str
  st : Stmt
  N : List Str
  a : Str
  n : Nat
  c : Nat
  hd : Exn → Stor → Res W
  ret : Str
structure Prg where
  fn : List Str
  cl : List Str
  cons : List (Str × D)
  /-- is a class below another -/
  sub : Nat → Nat → Bool
  er : Option ErrI
  /-- classes that make their errors themselves: isinstance may name them -/
  xcl : List Str := []
def Prg.acl (P : Prg) : List Str := P.cl ++ P.xcl
theorem Prg.acl_of {P : Prg} {i : Nat} {x : Str} (h : P.cl[i]? = some x) : P.acl[i]? = some x := by
  unfold Prg.acl
  rw [List.getElem?_append_left (List.getElem?_eq_some_iff.mp h).1, h]
structure Cf where
  P : Prg
  g : G
  R : Calls
  k : Nat
  /-- the same for the text of a lambda -/
  R2 : Calls
  k2 : Nat
  /-- does the def make lambdas? -/
  lm : Bool
def bltNames : List Str := ["len", "range", "tuple", "list", "isinstance", "int", "bool", "str", "abs", "min", "max", "all", "any", "sorted", "enumerate", "zip", "sum", "set", "dict", "ord", "chr", "reversed"]

inductive RelSs (g : G) (m : Mm) (st : Stor) (H : Hp) : List V → List SV → Prop
  | nil : RelSs g m st H [] []
  | cons {v s vs ss} : RelS g m st H v s → RelSs g m st H vs ss → RelSs g m st H (v :: vs) (s :: ss)
theorem RelSs.length {g : G} {m st H} : ∀ {vs ss}, RelSs g m st H vs ss → vs.length = ss.length
  | _, _, .nil => rfl
  | _, _, .cons _ t => by rw [List.length_cons, List.length_cons, RelSs.length t]
theorem RelSs.get {g : G} {m st H} : ∀ {vs ss} (i : Nat) {s : SV}, RelSs g m st H vs ss → ss[i]? = some s → ∃ v, vs[i]? = some v ∧ RelS g m st H v s
  | _, _, i, _, .nil, e => by simp at e
  | _, _, 0, _, .cons r _, e => by
    simp at e
    subst e
    exact ⟨_, rfl, r⟩
  | _, _, i + 1, _, .cons _ t, e => by
    obtain ⟨v, h1, h2⟩ := RelSs.get i t (by simpa using e)
    exact ⟨v, by simpa using h1, h2⟩
theorem RelSs.ext {g : G} {m st H m' st' H'} (e : Ext m st H m' st' H') (p : Pad m m') : ∀ {vs ss}, RelSs g m st H vs ss → RelSs g m' st' H' vs ss
  | _, _, .nil => .nil
  | _, _, .cons r t => .cons (r.ext e p) (RelSs.ext e p t)

/-- a def's promise -/
def spOf (g : G) (R : Calls) (i : Nat) : Sp := fun vs H Q E => ∃ m st args, Wd g m st H ∧ RelSs g m st H vs args ∧ Post g m [] (fun c d _ H => E c d H) st H (RW_ g m) (R i args st) Q

/-- what the making, raising and asking of an own exception's class need -/
structure ClsOk (K : PySem.W.Frag) (C : Addr) : Prop where
  exc : PySem.W.excIn K C [.type "ValueError", .type "Exception", .type "BaseException", .type "object"] "ValueError.__new__" = true
  kp : PySem.W.keepIn K (.ref C) = true
  sub : PySem.W.subIn K (.ref C) (.type "BaseException") = some true
  ty : PySem.W.typeIn K (.ref C) = some (.type "type")
  is : ExcC K C
structure Amb (c : Cf) (X : Cx) : Prop where
  K : X.K = c.g.K
  units : X.A.units + 70 < cLine
  room : X.calm = true → Room c.k X.A
  nd : X.N.Nodup
  blt : ∀ x ∈ bltNames, X.mg x = none
  fns : ∀ i x, c.P.fn[i]? = some x → X.mg x = some (.ref (c.g.fa i)) ∧ PySem.W.keepIn X.K (.ref (c.g.fa i)) = true ∧ ∃ fd ps, FnOk X.prog X.w X.K X.mg X.base (L2N.CX X.prog X.w) c.k (c.g.fa i) fd ps (spOf c.g c.R i) ∧ Binds X.K fd ps []
  cls : ∀ i x, c.P.acl[i]? = some x → X.mg x = some (.ref (c.g.ca i))
  clok : ∀ i x, c.P.cl[i]? = some x → ClsOk X.K (c.g.ca i)
  con : ∀ x d, (x, d) ∈ c.P.cons → ∃ u v, X.mg x = some u ∧ RelV v u ∧ ∀ m st H, Rel c.g m st H v d
  sub : ∀ i j x y, c.P.cl[i]? = some x → c.P.acl[j]? = some y → PySem.W.exmOne X.K (.ref (c.g.ca i)) (.ref (c.g.ca j)) = some (c.P.sub i j) ∧ PySem.W.kitOne X.K (.ref (c.g.ca i)) (.ref (c.g.ca j)) = some (c.P.sub i j)
  hot : X.calm = false → X.pn ≠ [] → L2H.HotC X
  lam : c.lm = true → c.k = c.k2 + 2 ∧ (∀ i x, c.P.fn[i]? = some x → ∃ fd ps, FnOk X.prog X.w X.K X.mg X.base (L2N.CX X.prog X.w) c.k2 (c.g.fa i) fd ps (spOf c.g c.R2 i) ∧ Binds X.K fd ps []) ∧
    (∃ cc P, LamX.TabB X.base X.mg cc P ∧ X.env.code = .ref cc ∧ (P, X.env.qual ++ "<lambda>") ∈ c.g.T ∧ ∀ p ∈ c.g.T, p.1 = P → p.2 = X.env.qual ++ "<lambda>") ∧
    ∀ e, c.P.er = some e → c.P.fn[e.i]? = some e.x ∧ ∃ fd, Fun X.K e.x e.x e.st (c.g.fa e.i) fd

def Val (g : G) (Wx : WX) (t : TE) (f : Den) : Prop := ∀ σ H env m st Q, EnvR g m st H σ env → Wd g m st H → Post g m σ Wx st H (RW_ g m) (f env st) Q → t σ H Q
def ValB (g : G) (Wx : WX) (t : TT) (f : DenB) : Prop := ∀ σ H env m st Q, EnvR g m st H σ env → Wd g m st H → Post g m σ Wx st H RB_ (f env st) Q → t σ H Q
def ValL (g : G) (Wx : WX) (t : TA) (f : DenL) : Prop := ∀ σ H env m st Q, EnvR g m st H σ env → Wd g m st H → Post g m σ Wx st H (RL_ g m) (f env st) Q → t σ H Q

structure RE (c : Cf) (X : Cx) (Wx : WX) (e : Expr) (f : Den) : Prop where
  ex : Amb c X → L2N.Takes X Wx → ∃ t, PE X e t ∧ Val c.g Wx t f
structure RT (c : Cf) (X : Cx) (Wx : WX) (e : Expr) (f : DenB) : Prop where
  ex : Amb c X → L2N.Takes X Wx → ∃ t, PT X e t ∧ ValB c.g Wx t f
structure RA (c : Cf) (X : Cx) (Wx : WX) (es : List Expr) (f : DenL) : Prop where
  ex : Amb c X → L2N.Takes X Wx → ∃ t, PA X es t ∧ ValL c.g Wx t f

/-- the readings in one form -/
def tOf (g : G) (Wx : WX) (f : Den) : TE := fun σ H Q => ∃ env m st, EnvR g m st H σ env ∧ Wd g m st H ∧ Post g m σ Wx st H (RW_ g m) (f env st) Q
def tOfB (g : G) (Wx : WX) (f : DenB) : TT := fun σ H Q => ∃ env m st, EnvR g m st H σ env ∧ Wd g m st H ∧ Post g m σ Wx st H RB_ (f env st) Q
theorem RE.pe {c : Cf} {X : Cx} {Wx : WX} {e : Expr} {f : Den} (h : RE c X Wx e f) (am : Amb c X) (tk : L2N.Takes X Wx) : PE X e (tOf c.g Wx f) := by
  obtain ⟨t, p, v⟩ := h.ex am tk
  refine ⟨fun pins s σ H Q I hq => ?_⟩
  obtain ⟨env, m, st, E, w, h⟩ := hq
  exact p.run pins s σ H Q I (v σ H env m st Q E w h)
theorem RT.pt {c : Cf} {X : Cx} {Wx : WX} {e : Expr} {f : DenB} (h : RT c X Wx e f) (am : Amb c X) (tk : L2N.Takes X Wx) : PT X e (tOfB c.g Wx f) := by
  obtain ⟨t, p, v⟩ := h.ex am tk
  refine ⟨fun pins s σ H Q I hq => ?_⟩
  obtain ⟨env, m, st, E, w, h⟩ := hq
  exact p.run pins s σ H Q I (v σ H env m st Q E w h)

theorem Post.ok {α β : Type} {g : G} {m σ Wx st H} {RA : Stor → Hp → Hp → β → α → Prop} {a : α} {Q : β → Hp → Prop} {b : β} (h : Post g m σ Wx st H RA (.ok a st) Q) (w : Wd g m st H) (r : RA st H H b a) : Q b H := h b H (.refl w) r
theorem Post.okS {α β : Type} {g : G} {m σ Wx st H H'} {RA : Stor → Hp → Hp → β → α → Prop} {a : α} {st' : Stor} {Q : β → Hp → Prop} {b : β} (h : Post g m σ Wx st H RA (.ok a st') Q) (w : Step g m st H m st' H') (r : RA st' H H' b a) : Q b H' := h b H' w r
theorem Post.ofO {α β : Type} {g : G} {m σ Wx st H} {RA : Stor → Hp → Hp → β → α → Prop} {o : Option α} {Q : β → Hp → Prop} (h : Post g m σ Wx st H RA (.ofO o st) Q) : ∃ a, o = some a ∧ Post g m σ Wx st H RA (.ok a st) Q := by
  cases o with
  | none => exact h.elim
  | some a => exact ⟨a, rfl, h⟩

/-! ### names and constants -/
def SV.w : SV → Option W
  | .d y => some (.d y)
  | .r i => some (.r i)
  | .x _ => none
theorem RelS.w {g : G} {m st H v H0} : ∀ {s : SV} {w : W}, RelS g m st H v s → s.w = some w → RelW g m st H0 H v w
  | .d _, _, r, e => by cases e; exact r
  | .r _, _, r, e => by cases e; exact r
  | .x _, _, _, e => by cases e
@[simp] def eV (i : Nat) : Den := fun env st => match env[i]? with
  | some (some s) => .ofO s.w st
  | _ => .no
section
variable {c : Cf} {X : Cx} {Wx : WX}
theorem re_v {i : Nat} {x : Str} {pos : Pos} (hN : X.N[i]? = some x := by rfl) (hv : Vis X.env.scope x := by first | exact Or.inl rfl | exact Or.inr (Or.inl rfl) | exact Or.inr (Or.inr rfl)) (hd : (x == ("__debug__" : Str)) = false := by decide)
    (hcd : (x == ("__classdict__" : Str)) = false := by decide) : RE c X Wx (.Name x pos) (eV i) := ⟨fun _ _ => ⟨_, pe_var hN hv hd hcd, fun σ H env m st Q E w h => by
  unfold eV at h
  cases e : env[i]? with
  | none => rw [e] at h; exact h.elim
  | some o =>
    cases o with
    | none => rw [e] at h; exact h.elim
    | some s =>
      rw [e] at h
      obtain ⟨v, h1, h2⟩ := E.at_ i s e
      obtain ⟨w2, e2, h⟩ := h.ofO
      exact ⟨v, h1, h.ok w (h2.w e2)⟩⟩⟩
@[simp] def eC (d : D) : Den := fun _ st => .ok (.d d) st
theorem re_int {i j pos} : RE c X Wx (.Constant (.int i) j pos) (eC (.int i)) := ⟨fun _ _ => ⟨_, pe_int, fun σ H env m st Q E w h => h.ok w (show Rel _ _ _ _ _ _ from .int i)⟩⟩
theorem re_bl {i j pos} : RE c X Wx (.Constant (.bool i) j pos) (eC (.bl i)) := ⟨fun _ _ => ⟨_, pe_bl, fun σ H env m st Q E w h => h.ok w (show Rel _ _ _ _ _ _ from .bl i)⟩⟩
theorem re_non {j pos} : RE c X Wx (.Constant .none j pos) (eC .non) := ⟨fun _ _ => ⟨_, pe_non, fun σ H env m st Q E w h => h.ok w (show Rel _ _ _ _ _ _ from .non)⟩⟩
theorem re_str {i j pos} : RE c X Wx (.Constant (.str i) j pos) (eC (.str i)) := ⟨fun _ _ => ⟨_, pe_str, fun σ H env m st Q E w h => h.ok w (show Rel _ _ _ _ _ _ from .str i)⟩⟩
theorem re_con {x : Str} {d : D} {pos : Pos} (hx : (x, d) ∈ c.P.cons) (hg : Gl X x := by rfl) (hd : (x == ("__debug__" : Str)) = false := by decide) : RE c X Wx (.Name x pos) (eC d) := ⟨fun a _ => by
  obtain ⟨u, v, h1, h2, h3⟩ := a.con x d hx
  exact ⟨_, pe_glob hg h1 h2 hd, fun σ H env m st Q E w h => h.ok w (show Rel _ _ _ _ _ _ from h3 m st H)⟩⟩
/-- a def as a value -/
theorem re_fn {i : Nat} {x : Str} {pos : Pos} (hx : c.P.fn[i]? = some x) (hg : Gl X x := by rfl) (hd : (x == ("__debug__" : Str)) = false := by decide) : RE c X Wx (.Name x pos) (eC (.fn i)) := ⟨fun a _ => by
  obtain ⟨h1, _⟩ := a.fns i x hx
  exact ⟨_, pe_glob (v := .ref (c.g.fa i)) hg h1 rfl hd, fun σ H env m st Q E w h => h.ok w (show Rel _ _ _ _ _ _ from .fn i)⟩⟩

/-! ### displays -/
@[simp] def aNil : DenL := fun _ st => .ok [] st
@[simp] def aCons (f : Den) (r : DenL) : DenL := fun env st => (f env st).bind fun w st => (Res.ofO w.toD st).bind fun x st => (r env st).bind fun xs st => .ok (x :: xs) st
theorem ra_nil : RA c X Wx [] aNil := ⟨fun _ _ => ⟨_, pa_nil, fun σ H env m st Q E w h => h.ok w (show RelL _ _ _ _ _ _ from .nil)⟩⟩
theorem ra_cons {e : Expr} {es : List Expr} {f : Den} {r : DenL} (he : RE c X Wx e f) (hr : RA c X Wx es r) (hs : starEach (e :: es) X.env = (false, eval e X.env) :: starEach es X.env := by rfl) : RA c X Wx (e :: es) (aCons f r) := ⟨fun a tk => by
  obtain ⟨t1, p1, v1⟩ := he.ex a tk
  obtain ⟨t2, p2, v2⟩ := hr.ex a tk
  refine ⟨_, pa_cons p1 p2 hs, fun σ H env m st Q E w h => ?_⟩
  unfold aCons at h
  refine v1 σ H env m st _ E w (Post.bind (RA := RW_ c.g m) back_l h fun w1 st1 _ v H1 s1 r1 h => ?_)
  cases z : w1.toD with
  | none => rw [z] at h; exact h.elim
  | some x =>
    rw [z] at h
    refine v2 σ H1 env m st1 _ (E.ext s1.ext s1.pre) s1.wd (Post.bind (RA := RL_ c.g m) back_l h fun xs st2 _ vs H2 s2 r2 h => ?_)
    exact h.ok s2.wd (show RelL _ _ _ _ _ _ from .cons ((r1.toD z).ext s2.ext) r2)⟩
def okLen {α : Type} (l : List α) : Bool := decide (l.length ≤ 16777216)
@[simp] def eTup (f : DenL) : Den := fun env st => (f env st).bind fun l st => if okLen l then .ok (.d (.tup l)) st else .no
@[simp] def eLst (f : DenL) : Den := fun env st => (f env st).bind fun l st => if okLen l then .ok (.n l) st else .no
theorem okLen_size {l : List D} (h : okLen l = true) {vs : List V} {g : G} {m st H} (r : RelL g m st H vs l) : vs.length ≤ sizeLine := by
  rw [r.length, sizeLine_eq]
  exact of_decide_eq_true h
theorem re_tup {es : List Expr} {f : DenL} {x1} {pos : Pos} (h : RA c X Wx es f) : RE c X Wx (.Tuple es x1 pos) (eTup f) := ⟨fun a tk => by
  obtain ⟨t, p, v⟩ := h.ex a tk
  refine ⟨_, pe_tup p, fun σ H env m st Q E w h => ?_⟩
  refine v σ H env m st _ E w (Post.bind back_w h fun l st1 _ vs H1 s1 r1 h => ?_)
  by_cases z : okLen l = true
  · rw [if_pos z] at h
    exact ⟨okLen_size z r1, fun p hp => h.okS (step_new s1.wd hp) (rel_newT s1.wd hp r1)⟩
  · rw [if_neg z] at h
    exact h.elim⟩
theorem re_lst {es : List Expr} {f : DenL} {pos : Pos} (h : RA c X Wx es f) : RE c X Wx (.List es pos) (eLst f) := ⟨fun a tk => by
  obtain ⟨t, p, v⟩ := h.ex a tk
  refine ⟨_, pe_lst p, fun σ H env m st Q E w h => ?_⟩
  refine v σ H env m st _ E w (Post.bind back_w h fun l st1 _ vs H1 s1 r1 h => ?_)
  by_cases z : okLen l = true
  · rw [if_pos z] at h
    exact ⟨okLen_size z r1, fun p hp => h.okS (step_new s1.wd hp) (rel_newL s1.wd hp r1)⟩
  · rw [if_neg z] at h
    exact h.elim⟩
end

/-! ### what a value holds -/
def W.asL (st : Stor) : W → Option (List D)
  | .d (.lst l) => some l
  | .n l => some l
  | .r i => match st[i]? with
    | some (.lst l) => some l
    | _ => none
  | _ => none
def W.asT : W → Option (List D)
  | .d (.tup l) => some l
  | _ => none
theorem RelW0.asL {g : G} {m st H v} (wd : Wd g m st H) : ∀ {w : W} {l : List D}, RelW0 g m st H v w → w.asL st = some l → ∃ a xs, v = .ref a ∧ H a = some (.lst xs) ∧ RelL g m st H xs l
  | .d (.lst l'), l, r, e => by
    cases e
    cases r with
    | lst h1 h2 => exact ⟨_, _, rfl, h1.1, h2⟩
  | .n l', l, r, e => by
    cases e
    obtain ⟨a, xs, h1, h2, h3, _⟩ := r
    exact ⟨a, xs, h1, h2, h3⟩
  | .r i, l, r, e => by
    obtain ⟨a, rfl, ha⟩ := r
    simp only [W.asL] at e
    split at e
    · rename_i l' q
      cases e
      obtain ⟨vs, h1, h2⟩ := wd.cells i a _ ha q
      exact ⟨a, vs, rfl, h1, h2⟩
    · cases e
theorem RelW0.asT {g : G} {m st H v} : ∀ {w : W} {l : List D}, RelW0 g m st H v w → w.asT = some l → ∃ a xs, v = .ref a ∧ SqT g.K H a xs ∧ RelL g m st H xs l
  | .d (.tup l'), l, r, e => by
    cases e
    cases r with
    | tup h1 h2 => exact ⟨_, _, rfl, h1.sq, h2⟩

/-! ### operators -/
def OpD (g : G) (X : Cx) (f : Value → Value → Sem Value) (o : Stor → W → W → Option W) : Prop :=
  ∃ r : R2, OpR X f r ∧ ∀ (m : Mm) (st : Stor) (H : Hp) (x y : V) (w1 w2 w : W) (Q : VK), Wd g m st H → RelW0 g m st H x w1 → RelW0 g m st H y w2 → o st w1 w2 = some w →
    (∀ v H', Step g m st H m st H' → RelW g m st H H' v w → Q v H') → r x y H Q
section
variable {c : Cf} {X : Cx} {Wx : WX} {a b e3 : Expr} {fa fb f3 : Den} {pos : Pos}
@[simp] def eOp (o : Stor → W → W → Option W) (fa fb : Den) : Den := fun env st => (fa env st).bind fun w1 st => (fb env st).bind fun w2 st => .ofO (o st w1 w2) st
theorem val_op {g : G} {f : Value → Value → Sem Value} {o : Stor → W → W → Option W} {r : R2} {t1 t2 : TE}
    (ho : ∀ (m : Mm) (st : Stor) (H : Hp) (x y : V) (w1 w2 w : W) (Q : VK), Wd g m st H → RelW0 g m st H x w1 → RelW0 g m st H y w2 → o st w1 w2 = some w →
    (∀ v H', Step g m st H m st H' → RelW g m st H H' v w → Q v H') → r x y H Q) (v1 : Val g Wx t1 fa) (v2 : Val g Wx t2 fb) : Val g Wx (tOp r t1 t2) (eOp o fa fb) := fun σ H env m st Q E w h => by
  refine v1 σ H env m st _ E w (Post.bind (RA := RW_ g m) back_w h fun w1 st1 _ x H1 s1 r1 h => ?_)
  refine v2 σ H1 env m st1 _ (E.ext s1.ext s1.pre) s1.wd (Post.bind (RA := RW_ g m) back_w h fun w2 st2 _ y H2 s2 r2 h => ?_)
  obtain ⟨w3, e3, h⟩ := h.ofO
  exact ho m st2 H2 x y w1 w2 w3 Q s2.wd (r1.w0.ext s2.ext) r2.w0 e3 fun v H' s r => h.okS s r
theorem re_op {op : Operator} {o : Stor → W → W → Option W} (ho : Amb c X → OpD c.g X (binaryOp op) o) (ha : RE c X Wx a fa) (hb : RE c X Wx b fb) : RE c X Wx (.BinOp a op b pos) (eOp o fa fb) := ⟨fun am tk => by
  obtain ⟨r, h1, h2⟩ := ho am
  obtain ⟨t1, p1, v1⟩ := ha.ex am tk
  obtain ⟨t2, p2, v2⟩ := hb.ex am tk
  exact ⟨_, pe_op h1 p1 p2, val_op (f := binaryOp op) h2 v1 v2⟩⟩
theorem re_cmp {op : CmpOp} {o : Stor → W → W → Option W} (ho : Amb c X → OpD c.g X (compareOp op) o) (ha : RE c X Wx a fa) (hb : RE c X Wx b fb) (hm : behindInMarks op b = false := by first | exact nomark _ (by decide) (by decide) | with_unfolding_all rfl) : RE c X Wx (.Compare a [op] [b] pos) (eOp o fa fb) := ⟨fun am tk => by
  obtain ⟨r, h1, h2⟩ := ho am
  obtain ⟨t1, p1, v1⟩ := ha.ex am tk
  obtain ⟨t2, p2, v2⟩ := hb.ex am tk
  exact ⟨_, pe_cmpR h1 p1 p2 hm, val_op (f := compareOp op) h2 v1 v2⟩⟩
/-- a value that is a truth value, as a test -/
def W.asB : W → Option Bool
  | .d (.bl b) => some b
  | _ => none
@[simp] def bV (f : Den) : DenB := fun env st => (f env st).bind fun w st => .ofO w.asB st
theorem RelW.asB {g : G} {m st H0 H v} : ∀ {w : W} {b : Bool}, RelW g m st H0 H v w → w.asB = some b → v = .bl b
  | .d (.bl b'), b, r, e => by
    cases e
    cases r
    rfl
theorem valb_of {g : G} {t : TE} {f : Den} {T : TT} (v : Val g Wx t f) (hT : ∀ σ H Q, t σ H (fun x H' => ∃ k, x = .bl k ∧ Q k H') → T σ H Q) : ValB g Wx T (bV f) := fun σ H env m st Q E w h => by
  refine hT σ H Q (v σ H env m st _ E w (Post.bind (RA := RW_ g m) back_b h fun w1 st1 _ x H1 s1 r1 h => ?_))
  obtain ⟨k, e, h⟩ := h.ofO
  exact ⟨k, r1.asB e, h.ok s1.wd rfl⟩
theorem rt_val (ha : RE c X Wx a fa) (he : ∀ whole, isTrue a X.env whole = (do let v ← whole; standAt a.pos; holding [v] (truthy v)) := by intro _; rfl) : RT c X Wx a (bV fa) := ⟨fun am tk => by
  obtain ⟨t1, p1, v1⟩ := ha.ex am tk
  exact ⟨_, pt_val p1 he, valb_of v1 fun σ H Q h => h⟩⟩
theorem rt_cmp {op : CmpOp} {o : Stor → W → W → Option W} (ho : Amb c X → OpD c.g X (compareOp op) o) (ha : RE c X Wx a fa) (hb : RE c X Wx b fb) (hm : behindInMarks op b = false := by first | exact nomark _ (by decide) (by decide) | with_unfolding_all rfl) : RT c X Wx (.Compare a [op] [b] pos) (bV (eOp o fa fb)) := ⟨fun am tk => by
  obtain ⟨r, h1, h2⟩ := ho am
  obtain ⟨t1, p1, v1⟩ := ha.ex am tk
  obtain ⟨t2, p2, v2⟩ := hb.ex am tk
  exact ⟨_, pt_cmpR h1 p1 p2 hm, valb_of (val_op (f := compareOp op) h2 v1 v2) fun σ H Q h => h⟩⟩
/-- a op b op' c -/
@[simp] def eChain (o o' : Stor → W → W → Option W) (fa fb f3 : Den) : Den := fun env st => (fa env st).bind fun w1 st => (fb env st).bind fun w2 st => (Res.ofO ((o st w1 w2).bind W.asB) st).bind fun k st =>
  if k then (f3 env st).bind fun w3 st => .ofO (o' st w2 w3) st else .ok (.d (.bl false)) st
theorem val_chain {g : G} {o o' : Stor → W → W → Option W} {op op' : CmpOp} {r r' : R2} {t1 t2 t3 : TE}
    (ho : ∀ (m : Mm) (st : Stor) (H : Hp) (x y : V) (w1 w2 w : W) (Q : VK), Wd g m st H → RelW0 g m st H x w1 → RelW0 g m st H y w2 → o st w1 w2 = some w →
    (∀ v H', Step g m st H m st H' → RelW g m st H H' v w → Q v H') → r x y H Q)
    (ho' : ∀ (m : Mm) (st : Stor) (H : Hp) (x y : V) (w1 w2 w : W) (Q : VK), Wd g m st H → RelW0 g m st H x w1 → RelW0 g m st H y w2 → o' st w1 w2 = some w →
    (∀ v H', Step g m st H m st H' → RelW g m st H H' v w → Q v H') → r' x y H Q)
    (v1 : Val g Wx t1 fa) (v2 : Val g Wx t2 fb) (v3 : Val g Wx t3 f3) : Val g Wx (tChain r r' t1 t2 t3) (eChain o o' fa fb f3) := fun σ H env m st Q E w h => by
  refine v1 σ H env m st _ E w (Post.bind (RA := RW_ g m) back_w h fun w1 st1 _ x H1 s1 r1 h => ?_)
  refine v2 σ H1 env m st1 _ (E.ext s1.ext s1.pre) s1.wd (Post.bind (RA := RW_ g m) back_w h fun w2 st2 _ y H2 s2 r2 h => ?_)
  cases e : (o st2 w1 w2).bind W.asB with
  | none => rw [e] at h; exact h.elim
  | some k =>
    rw [e] at h
    cases e1 : o st2 w1 w2 with
    | none => rw [e1] at e; cases e
    | some w12 =>
      rw [e1] at e
      have e : w12.asB = some k := e
      refine ho m st2 H2 x y w1 w2 w12 _ s2.wd (r1.w0.ext s2.ext) r2.w0 e1 fun z H3 s3 r3 => ⟨k, r3.asB e, ?_⟩
      cases k with
      | false =>
        rw [if_neg Bool.false_ne_true]
        exact h.okS s3 (show Rel _ _ _ _ _ _ from .bl false)
      | true =>
        rw [if_pos rfl]
        have E2 := E.ext (s1.trans (s2.trans s3)).ext (s1.trans (s2.trans s3)).pre
        have h : Post g m σ Wx st2 H2 (RW_ g m) ((f3 env st2).bind fun w3 st => .ofO (o' st w2 w3) st) Q := h
        have h3 : Post g m σ Wx st2 H3 (RW_ g m) ((f3 env st2).bind fun w3 st => .ofO (o' st w2 w3) st) Q := by
          cases q : (f3 env st2).bind fun w3 st => Res.ofO (o' st w2 w3) st with
          | no => rw [q] at h; exact h
          | err x st4 =>
            rw [q] at h
            exact fun c d H4 s4 e4 => h c d H4 (s3.trans s4) e4
          | ok w4 st4 =>
            rw [q] at h
            exact fun v H4 s4 e4 => h v H4 (s3.trans s4) (back_w _ _ _ _ _ _ (fun x z => s3.ext.none z) e4)
        refine v3 σ H3 env m st2 _ E2 s3.wd (Post.bind (RA := RW_ g m) back_w h3 fun w3 st4 _ y' H4 s4 r4 h => ?_)
        obtain ⟨w5, e5, h⟩ := h.ofO
        exact ho' m st4 H4 y y' w2 w3 w5 Q s4.wd ((r2.w0.ext s3.ext).ext s4.ext) r4.w0 e5 fun v H' s r => h.okS s r
theorem re_chain {op op' : CmpOp} {o o' : Stor → W → W → Option W} (ho : Amb c X → OpD c.g X (compareOp op) o) (ho' : Amb c X → OpD c.g X (compareOp op') o') (ha : RE c X Wx a fa) (hb : RE c X Wx b fb) (h3 : RE c X Wx e3 f3)
    (hm : lastMarks [op, op'] [b, e3] = false := by with_unfolding_all rfl) : RE c X Wx (.Compare a [op, op'] [b, e3] pos) (eChain o o' fa fb f3) := ⟨fun am tk => by
  obtain ⟨r, h1, h2⟩ := ho am
  obtain ⟨r', h1', h2'⟩ := ho' am
  obtain ⟨t1, p1, v1⟩ := ha.ex am tk
  obtain ⟨t2, p2, v2⟩ := hb.ex am tk
  obtain ⟨t3, p3, v3⟩ := h3.ex am tk
  exact ⟨_, pe_chain h1 h1' p1 p2 p3 hm, val_chain (op := op) (op' := op') h2 h2' v1 v2 v3⟩⟩
theorem rt_chain {op op' : CmpOp} {o o' : Stor → W → W → Option W} (ho : Amb c X → OpD c.g X (compareOp op) o) (ho' : Amb c X → OpD c.g X (compareOp op') o') (ha : RE c X Wx a fa) (hb : RE c X Wx b fb) (h3 : RE c X Wx e3 f3)
    (hm : lastMarks [op, op'] [b, e3] = false := by with_unfolding_all rfl) : RT c X Wx (.Compare a [op, op'] [b, e3] pos) (bV (eChain o o' fa fb f3)) := ⟨fun am tk => by
  obtain ⟨r, h1, h2⟩ := ho am
  obtain ⟨r', h1', h2'⟩ := ho' am
  obtain ⟨t1, p1, v1⟩ := ha.ex am tk
  obtain ⟨t2, p2, v2⟩ := hb.ex am tk
  obtain ⟨t3, p3, v3⟩ := h3.ex am tk
  exact ⟨_, pt_chain h1 h1' p1 p2 p3 hm, valb_of (val_chain (op := op) (op' := op') h2 h2' v1 v2 v3) fun σ H Q h => h⟩⟩
end

/-! ### and, or, not, if .. else -/
section
variable {c : Cf} {X : Cx} {Wx : WX} {a b e3 : Expr} {fa fb f3 : Den} {ta tb : DenB} {pos : Pos} {rest : List Expr}
theorem Post.moved {α β : Type} {g : G} {m σ Wx st H H'} {RA : Stor → Hp → Hp → β → α → Prop} {r : Res α} {Q : β → Hp → Prop} (hB : Back RA) (s : Step g m st H m st H') (h : Post g m σ Wx st H RA r Q) : Post g m σ Wx st H' RA r Q := by
  cases r with
  | no => exact h
  | err x st4 => exact fun c d H4 s4 e4 => h c d H4 (s.trans s4) e4
  | ok w4 st4 => exact fun v H4 s4 e4 => h v H4 (s.trans s4) (hB _ _ _ _ _ _ (fun x z => s.ext.none z) e4)
@[simp] def bAnd (f r : DenB) : DenB := fun env st => (f env st).bind fun k st => if k then r env st else .ok false st
@[simp] def bOr (f r : DenB) : DenB := fun env st => (f env st).bind fun k st => if k then .ok true st else r env st
@[simp] def bNot (f : DenB) : DenB := fun env st => (f env st).bind fun k st => .ok (!k) st
structure RWt (c : Cf) (X : Cx) (Wx : WX) (e : Expr) (f : DenB) : Prop where
  ex : Amb c X → L2N.Takes X Wx → ∃ t, PW X e t ∧ ValB c.g Wx t f
theorem RWt.rt {e : Expr} {f : DenB} (h : RWt c X Wx e f) : RT c X Wx e f := ⟨fun am tk => let ⟨t, p, v⟩ := h.ex am tk; ⟨t, p.pt, v⟩⟩
theorem rw_and1 (ha : RT c X Wx a ta) : RWt c X Wx (.BoolOp .And [a] pos) ta := ⟨fun am tk => let ⟨t, p, v⟩ := ha.ex am tk; ⟨t, pw_and1 p, v⟩⟩
theorem rw_or1 (ha : RT c X Wx a ta) : RWt c X Wx (.BoolOp .Or [a] pos) ta := ⟨fun am tk => let ⟨t, p, v⟩ := ha.ex am tk; ⟨t, pw_or1 p, v⟩⟩
theorem valb_and {g : G} {t u : TT} (v1 : ValB g Wx t ta) (v2 : ValB g Wx u tb) : ValB g Wx (tAnd t u) (bAnd ta tb) := fun σ H env m st Q E w h => by
  refine v1 σ H env m st _ E w (Post.bind (RA := RB_) back_b h fun k st1 _ k' H1 s1 r1 h => ?_)
  cases (show k' = k from r1)
  cases k with
  | false => rw [if_neg Bool.false_ne_true]; exact h.ok s1.wd rfl
  | true => rw [if_pos rfl]; exact v2 σ H1 env m st1 _ (E.ext s1.ext s1.pre) s1.wd h
theorem valb_or {g : G} {t u : TT} (v1 : ValB g Wx t ta) (v2 : ValB g Wx u tb) : ValB g Wx (tOr t u) (bOr ta tb) := fun σ H env m st Q E w h => by
  refine v1 σ H env m st _ E w (Post.bind (RA := RB_) back_b h fun k st1 _ k' H1 s1 r1 h => ?_)
  cases (show k' = k from r1)
  cases k with
  | true => rw [if_pos rfl]; exact h.ok s1.wd rfl
  | false => rw [if_neg Bool.false_ne_true]; exact v2 σ H1 env m st1 _ (E.ext s1.ext s1.pre) s1.wd h
theorem rw_and (ha : RT c X Wx a ta) (hb : RWt c X Wx (.BoolOp .And (b :: rest) pos) tb) : RWt c X Wx (.BoolOp .And (a :: b :: rest) pos) (bAnd ta tb) := ⟨fun am tk => by
  obtain ⟨t1, p1, v1⟩ := ha.ex am tk
  obtain ⟨t2, p2, v2⟩ := hb.ex am tk
  exact ⟨_, pw_and p1 p2, valb_and v1 v2⟩⟩
theorem rw_or (ha : RT c X Wx a ta) (hb : RWt c X Wx (.BoolOp .Or (b :: rest) pos) tb) : RWt c X Wx (.BoolOp .Or (a :: b :: rest) pos) (bOr ta tb) := ⟨fun am tk => by
  obtain ⟨t1, p1, v1⟩ := ha.ex am tk
  obtain ⟨t2, p2, v2⟩ := hb.ex am tk
  exact ⟨_, pw_or p1 p2, valb_or v1 v2⟩⟩
theorem rt_not (ha : RT c X Wx a ta) : RT c X Wx (.UnaryOp .Not a pos) (bNot ta) := ⟨fun am tk => by
  obtain ⟨t1, p1, v1⟩ := ha.ex am tk
  refine ⟨_, pt_not p1, fun σ H env m st Q E w h => ?_⟩
  refine v1 σ H env m st _ E w (Post.bind (RA := RB_) back_b h fun k st1 _ k' H1 s1 r1 h => ?_)
  cases (show k' = k from r1)
  exact h.ok s1.wd rfl⟩
/-- as values: all but the last truth values -/
@[simp] def eAnd (f r : Den) : Den := fun env st => (bV f env st).bind fun k st => if k then r env st else .ok (.d (.bl false)) st
@[simp] def eOr (f r : Den) : Den := fun env st => (bV f env st).bind fun k st => if k then .ok (.d (.bl true)) st else r env st
@[simp] def eNot (f : Den) : Den := fun env st => (bV f env st).bind fun k st => .ok (.d (.bl (!k))) st
theorem val_b {g : G} {t : TE} {f : Den} (v : Val g Wx t f) {α β : Type} {RA : Stor → Hp → Hp → β → α → Prop} (hB : Back RA) {k : Bool → Stor → Res α} {Q : β → Hp → Prop} {σ H env m st} (E : EnvR g m st H σ env) (w : Wd g m st H) (h : Post g m σ Wx st H RA ((bV f env st).bind k) Q)
    {R : V → Hp → Prop} (hk : ∀ b st1 H1, Step g m st H m st1 H1 → Post g m σ Wx st1 H1 RA (k b st1) Q → R (.bl b) H1) : t σ H R := by
  unfold bV at h
  have e : ((f env st).bind fun w st => Res.ofO w.asB st).bind k = (f env st).bind fun w st => (Res.ofO w.asB st).bind k := by
    cases f env st <;> rfl
  rw [e] at h
  refine v σ H env m st _ E w (Post.bind (RA := RW_ g m) hB h fun w1 st1 _ x H1 s1 r1 h => ?_)
  cases z : w1.asB with
  | none => rw [z] at h; exact h.elim
  | some b =>
    rw [z] at h
    rw [r1.asB z]
    exact hk b st1 H1 s1 h
theorem re_one {op} (ha : RE c X Wx a fa) : RE c X Wx (.BoolOp op [a] pos) fa := ⟨fun am tk => let ⟨t, p, v⟩ := ha.ex am tk; ⟨t, pe_one p, v⟩⟩
theorem re_and (ha : RE c X Wx a fa) (hb : RE c X Wx (.BoolOp .And (b :: rest) pos) fb) : RE c X Wx (.BoolOp .And (a :: b :: rest) pos) (eAnd fa fb) := ⟨fun am tk => by
  obtain ⟨t1, p1, v1⟩ := ha.ex am tk
  obtain ⟨t2, p2, v2⟩ := hb.ex am tk
  refine ⟨_, pe_and p1 p2, fun σ H env m st Q E w h => val_b v1 back_w E w h fun k st1 H1 s1 h => ⟨k, rfl, ?_⟩⟩
  cases k with
  | false => rw [if_neg Bool.false_ne_true]; exact h.ok s1.wd (show Rel _ _ _ _ _ _ from .bl false)
  | true => rw [if_pos rfl]; exact v2 σ H1 env m st1 _ (E.ext s1.ext s1.pre) s1.wd h⟩
theorem re_or (ha : RE c X Wx a fa) (hb : RE c X Wx (.BoolOp .Or (b :: rest) pos) fb) : RE c X Wx (.BoolOp .Or (a :: b :: rest) pos) (eOr fa fb) := ⟨fun am tk => by
  obtain ⟨t1, p1, v1⟩ := ha.ex am tk
  obtain ⟨t2, p2, v2⟩ := hb.ex am tk
  refine ⟨_, pe_or p1 p2, fun σ H env m st Q E w h => val_b v1 back_w E w h fun k st1 H1 s1 h => ⟨k, rfl, ?_⟩⟩
  cases k with
  | true => rw [if_pos rfl]; exact h.ok s1.wd (show Rel _ _ _ _ _ _ from .bl true)
  | false => rw [if_neg Bool.false_ne_true]; exact v2 σ H1 env m st1 _ (E.ext s1.ext s1.pre) s1.wd h⟩
theorem re_not (ha : RE c X Wx a fa) : RE c X Wx (.UnaryOp .Not a pos) (eNot fa) := ⟨fun am tk => by
  obtain ⟨t1, p1, v1⟩ := ha.ex am tk
  exact ⟨_, pe_not p1, fun σ H env m st Q E w h => val_b v1 back_w E w h fun k st1 H1 s1 h => ⟨k, rfl, h.ok s1.wd (show Rel _ _ _ _ _ _ from .bl (!k))⟩⟩⟩
@[simp] def eIf (t : DenB) (f g : Den) : Den := fun env st => (t env st).bind fun k st => if k then f env st else g env st
theorem re_if {cc : Expr} (hc : RT c X Wx cc ta) (ha : RE c X Wx a fa) (hb : RE c X Wx b fb) : RE c X Wx (.IfExp cc a b pos) (eIf ta fa fb) := ⟨fun am tk => by
  obtain ⟨t0, p0, v0⟩ := hc.ex am tk
  obtain ⟨t1, p1, v1⟩ := ha.ex am tk
  obtain ⟨t2, p2, v2⟩ := hb.ex am tk
  refine ⟨_, pe_ifExp p0 p1 p2, fun σ H env m st Q E w h => v0 σ H env m st _ E w (Post.bind (RA := RB_) back_w h fun k st1 _ k' H1 s1 r1 h => ?_)⟩
  cases (show k' = k from r1)
  cases k with
  | false => rw [if_neg Bool.false_ne_true]; exact v2 σ H1 env m st1 _ (E.ext s1.ext s1.pre) s1.wd h
  | true => rw [if_pos rfl]; exact v1 σ H1 env m st1 _ (E.ext s1.ext s1.pre) s1.wd h⟩
end
end DL

/-! DL: operators by values. -/
namespace DL
open PySem PySem.Spec PyProof.Rows L2

/-! ### data as the library's data -/
mutual
def D.py : D → Option PyData
  | .non => some .none
  | .bl b => some (.bool b)
  | .int i => some (.int i)
  | .str s => some (.str s)
  | .tup l => (D.pyL l).map .tuple
  | .lst l => (D.pyL l).map .list
  | .fn _ => none
  | .scr _ => none
def D.pyL : List D → Option (List PyData)
  | [] => some []
  | d :: r => (D.py d).bind fun p => (D.pyL r).map fun q => p :: q
end
section
variable {g : G} {m : Mm} {st : Stor} {H : Hp}
mutual
theorem Rel.dp : ∀ {v : V} {d : D} {p : PyData}, Rel g m st H v d → d.py = some p → Dp g.K H v p
  | _, _, _, .non, e => by simp only [D.py] at e; cases e; exact .non
  | _, _, _, .bl b, e => by simp only [D.py] at e; cases e; exact .bl b
  | _, _, _, .int i, e => by simp only [D.py] at e; cases e; exact .int i
  | _, _, _, .str x, e => by simp only [D.py] at e; cases e; exact .str x
  | _, .tup l, _, .tup h r, e => by
    simp only [D.py] at e
    cases z : D.pyL l with
    | none => rw [z] at e; cases e
    | some q => rw [z] at e; cases e; exact .tup h.sq (RelL.dp r z)
  | _, .lst l, _, .lst h r, e => by
    simp only [D.py] at e
    cases z : D.pyL l with
    | none => rw [z] at e; cases e
    | some q => rw [z] at e; cases e; exact .lst h.sq (RelL.dp r z)
  | _, _, _, .fn i, e => by simp only [D.py] at e; cases e
  | _, _, _, .scr h, e => by simp only [D.py] at e; cases e
theorem RelL.dp : ∀ {vs : List V} {ds : List D} {ps : List PyData}, RelL g m st H vs ds → D.pyL ds = some ps → DpAll g.K H vs ps
  | _, _, _, .nil, e => by simp only [D.pyL] at e; cases e; exact .nil
  | _, d :: ds, _, .cons r t, e => by
    simp only [D.pyL] at e
    cases z : d.py with
    | none => rw [z] at e; cases e
    | some q =>
      rw [z] at e
      cases z2 : D.pyL ds with
      | none => rw [z2] at e; cases e
      | some q2 => rw [z2] at e; cases e; exact .cons (Rel.dp r z) (RelL.dp t z2)
end
end
/-- what a value is as data -/
def W.asD (st : Stor) : W → Option D
  | .d x => some x
  | .n l => some (.lst l)
  | .r i => match st[i]? with
    | some (.lst l) => some (.lst l)
    | _ => none
def W.py (st : Stor) (w : W) : Option PyData := (w.asD st).bind D.py
theorem RelW0.dp {g : G} {m st H v} (wd : Wd g m st H) : ∀ {w : W} {p : PyData}, RelW0 g m st H v w → w.py st = some p → Dp g.K H v p
  | .d x, p, r, e => Rel.dp r e
  | .n l, p, r, e => Rel.dp (RelW0.toD (w := .n l) r rfl) e
  | .r i, p, r, e => by
    obtain ⟨a, rfl, ha⟩ := r
    simp only [W.py, W.asD] at e
    cases q : st[i]? with
    | none => rw [q] at e; cases e
    | some c =>
      rw [q] at e
      cases c with
      | dead => cases e
      | dct l => cases e
      | lst l =>
        obtain ⟨vs, h1, h2⟩ := wd.cells i a _ ha q
        have e : (D.lst l).py = some p := e
        simp only [D.py] at e
        cases z : D.pyL l with
        | none => rw [z] at e; cases e
        | some q => rw [z] at e; cases e; exact .lst (.inl (.inl h1)) (RelL.dp h2 z)

section
variable {g : G} {X : Cx}
theorem OpD.of {f : Value → Value → Sem Value} {o : Stor → W → W → Option W} {r : R2} (h : OpR X f r)
    (k : ∀ (m : Mm) (st : Stor) (H : Hp) (x y : V) (w1 w2 w : W) (Q : VK), Wd g m st H → RelW0 g m st H x w1 → RelW0 g m st H y w2 → o st w1 w2 = some w → (∀ v H', Step g m st H m st H' → RelW g m st H H' v w → Q v H') → r x y H Q) : OpD g X f o := ⟨r, h, k⟩
theorem OpR.or {f : Value → Value → Sem Value} {r r' : R2} (h : OpR X f r) (h' : OpR X f r') : OpR X f (fun x y H Q => r x y H Q ∨ r' x y H Q) := by
  intro pins s σ H x y v u Q I rx ry q
  rcases q with q | q
  · exact h pins s σ H x y v u Q I rx ry q
  · exact h' pins s σ H x y v u Q I rx ry q

/-! ### == and != -/
def dEqv (st : Stor) (w1 w2 : W) : Option Bool := (w1.py st).bind fun p => (w2.py st).bind fun q => if SeqAt.shaped p && SeqAt.shaped q then some (PyData.eqv p q) else none
def dEq (st : Stor) (w1 w2 : W) : Option W := (dEqv st w1 w2).map fun b => .d (.bl b)
def dNe (st : Stor) (w1 w2 : W) : Option W := (dEqv st w1 w2).map fun b => .d (.bl (!b))
theorem dEqv_some {st : Stor} {w1 w2 : W} {b : Bool} (h : dEqv st w1 w2 = some b) : ∃ p q, w1.py st = some p ∧ w2.py st = some q ∧ SeqAt.shaped p = true ∧ SeqAt.shaped q = true ∧ b = PyData.eqv p q := by
  unfold dEqv at h
  cases e1 : w1.py st with
  | none => rw [e1] at h; cases h
  | some p =>
    rw [e1] at h
    cases e2 : w2.py st with
    | none => rw [e2] at h; cases h
    | some q =>
      rw [e2] at h
      simp only [Option.bind_some] at h
      split at h
      · rename_i z
        rw [Bool.and_eq_true] at z
        cases h
        exact ⟨p, q, rfl, rfl, z.1, z.2, rfl⟩
      · cases h
theorem opd_eq (hK : X.K = g.K) (hu : X.A.units + 64 < cLine) : OpD g X (compareOp .Eq) dEq := OpD.of (op_eqD hu) fun m st H x y w1 w2 w Q wd r1 r2 e q => by
  unfold dEq at e
  cases z : dEqv st w1 w2 with
  | none => rw [z] at e; cases e
  | some b =>
    rw [z] at e
    cases e
    obtain ⟨d1, d2, e1, e2, s1, s2, rfl⟩ := dEqv_some z
    exact ⟨d1, d2, hK ▸ r1.dp wd e1, hK ▸ r2.dp wd e2, s1, s2, q _ _ (.refl wd) (show Rel _ _ _ _ _ _ from .bl _)⟩
theorem opd_ne (hK : X.K = g.K) (hu : X.A.units + 64 < cLine) : OpD g X (compareOp .NotEq) dNe := OpD.of (op_neD hu) fun m st H x y w1 w2 w Q wd r1 r2 e q => by
  unfold dNe at e
  cases z : dEqv st w1 w2 with
  | none => rw [z] at e; cases e
  | some b =>
    rw [z] at e
    cases e
    obtain ⟨d1, d2, e1, e2, s1, s2, rfl⟩ := dEqv_some z
    exact ⟨d1, d2, hK ▸ r1.dp wd e1, hK ▸ r2.dp wd e2, s1, s2, q _ _ (.refl wd) (show Rel _ _ _ _ _ _ from .bl _)⟩
/-! ### is, is not None -/
def dIsN (_ : Stor) : W → W → Option W
  | .d .non, .d .non => some (.d (.bl true))
  | .d (.bl a), .d (.bl b) => some (.d (.bl (decide (a = b))))
  | _, .d .non => some (.d (.bl false))
  | _, _ => none
def dNotN (_ : Stor) : W → W → Option W
  | .d .non, .d .non => some (.d (.bl false))
  | .d (.bl a), .d (.bl b) => some (.d (.bl (!decide (a = b))))
  | _, .d .non => some (.d (.bl true))
  | _, _ => none
def W.isN : W → Bool
  | .d .non => true
  | _ => false
theorem RelW0.isN {m st H v} : ∀ {w : W}, RelW0 g m st H v w → decide (v = .non) = w.isN
  | .d x, r => by
    cases x with
    | non => cases r; rfl
    | bl b => cases r; rfl
    | int b => cases r; rfl
    | str b => cases r; rfl
    | tup b => cases r; rfl
    | lst b => cases r; rfl
    | fn b => cases r; rfl
    | scr b => cases r; rfl
  | .n x, r => by obtain ⟨a, xs, rfl, _⟩ := r; rfl
  | .r x, r => by obtain ⟨a, rfl, _⟩ := r; rfl
theorem dIsN_some {st : Stor} {w1 w2 w : W} (h : dIsN st w1 w2 = some w) : (w2 = .d .non ∧ w = .d (.bl (w1.isN))) ∨ ∃ a b, w1 = .d (.bl a) ∧ w2 = .d (.bl b) ∧ w = .d (.bl (decide (a = b))) := by
  unfold dIsN at h
  split at h
  · cases h; exact .inl ⟨rfl, rfl⟩
  · cases h; exact .inr ⟨_, _, rfl, rfl, rfl⟩
  · cases h
    refine .inl ⟨rfl, ?_⟩
    cases w1 with
    | d x => cases x <;> first | rfl | simp_all
    | n x => rfl
    | r x => rfl
  · cases h
theorem dNotN_some {st : Stor} {w1 w2 w : W} (h : dNotN st w1 w2 = some w) : (w2 = .d .non ∧ w = .d (.bl (!w1.isN))) ∨ ∃ a b, w1 = .d (.bl a) ∧ w2 = .d (.bl b) ∧ w = .d (.bl (!decide (a = b))) := by
  unfold dNotN at h
  split at h
  · cases h; exact .inl ⟨rfl, rfl⟩
  · cases h; exact .inr ⟨_, _, rfl, rfl, rfl⟩
  · cases h
    refine .inl ⟨rfl, ?_⟩
    cases w1 with
    | d x => cases x <;> first | rfl | simp_all
    | n x => rfl
    | r x => rfl
  · cases h
theorem opR_or {f : Value → Value → Sem Value} {r1 r2 : V → V → Hp → VK → Prop} (h1 : OpR X f r1) (h2 : OpR X f r2) : OpR X f (fun x y H Q => r1 x y H Q ∨ r2 x y H Q) := by
  intro pins s σ H x y v u Q I rx ry h
  rcases h with h | h
  · exact h1 pins s σ H x y v u Q I rx ry h
  · exact h2 pins s σ H x y v u Q I rx ry h
theorem opd_is : OpD g X (compareOp .Is) dIsN := OpD.of (opR_or op_isN op_is_bl) fun m st H x y w1 w2 w Q wd r1 r2 e q => by
  rcases dIsN_some e with ⟨rfl, rfl⟩ | ⟨a, b, rfl, rfl, rfl⟩
  · cases r2
    exact .inl ⟨rfl, q _ _ (.refl wd) (show Rel _ _ _ _ _ _ by rw [r1.isN]; exact .bl _)⟩
  · cases r1
    cases r2
    exact .inr ⟨_, _, rfl, rfl, q _ _ (.refl wd) (show Rel _ _ _ _ _ _ from .bl _)⟩
theorem opd_isnot : OpD g X (compareOp .IsNot) dNotN := OpD.of (opR_or op_notN op_isnot_bl) fun m st H x y w1 w2 w Q wd r1 r2 e q => by
  rcases dNotN_some e with ⟨rfl, rfl⟩ | ⟨a, b, rfl, rfl, rfl⟩
  · cases r2
    exact .inl ⟨rfl, q _ _ (.refl wd) (show Rel _ _ _ _ _ _ by rw [r1.isN]; exact .bl _)⟩
  · cases r1
    cases r2
    exact .inr ⟨_, _, rfl, rfl, q _ _ (.refl wd) (show Rel _ _ _ _ _ _ from .bl _)⟩

/-! ### <, <=, >, >= -/
/-- the ints of a list -/
def intsOf : List D → Option (List Int)
  | [] => some []
  | .int i :: r => (intsOf r).map (i :: ·)
  | _ :: _ => none
theorem RelL.intsOf {m st H} : ∀ {vs : List V} {ds : List D} {ns : List Int}, RelL g m st H vs ds → DL.intsOf ds = some ns → vs = ns.map V.int
  | _, _, _, .nil, e => by simp only [DL.intsOf] at e; cases e; rfl
  | _, .int i :: ds, _, .cons r t, e => by
    simp only [DL.intsOf] at e
    cases z : DL.intsOf ds with
    | none => rw [z] at e; cases e
    | some q =>
      rw [z] at e
      cases e
      cases r
      rw [RelL.intsOf t z]
      rfl
def dLt (_ : Stor) : W → W → Option W
  | .d (.int i), .d (.int j) => some (.d (.bl (decide (i < j))))
  | .d (.tup a), .d (.tup b) => (intsOf a).bind fun x => (intsOf b).map fun y => .d (.bl (HT.lexLt x y))
  | .d (.str a), .d (.str b) => some (.d (.bl (decide (a.cps.toList < b.cps.toList))))
  | _, _ => none
theorem opd_lt (hK : X.K = g.K) (hu : X.A.units + 64 < cLine) : OpD g X (compareOp .Lt) dLt := OpD.of (op_lt.or ((op_ltT (X := X) (Nat.lt_of_le_of_lt (Nat.le_add_right _ _) hu)).or op_lt_str)) fun m st H x y w1 w2 w Q wd r1 r2 e q => by
  unfold dLt at e
  split at e
  · cases e
    cases r1
    cases r2
    exact .inl ⟨_, _, rfl, rfl, q _ _ (.refl wd) (show Rel _ _ _ _ _ _ from .bl _)⟩
  · rename_i a b
    cases z1 : intsOf a with
    | none => rw [z1] at e; cases e
    | some ns =>
      cases z2 : intsOf b with
      | none => rw [z1, z2] at e; cases e
      | some ms =>
        rw [z1, z2] at e
        cases e
        obtain ⟨p1, xs1, rfl, s1, l1⟩ := r1.asT rfl
        obtain ⟨p2, xs2, rfl, s2, l2⟩ := r2.asT rfl
        rw [l1.intsOf z1] at s1
        rw [l2.intsOf z2] at s2
        exact .inr (.inl ⟨p1, p2, ns, ms, rfl, rfl, hK ▸ s1, hK ▸ s2, q _ _ (.refl wd) (show Rel _ _ _ _ _ _ from .bl _)⟩)
  · cases e
    cases r1
    cases r2
    exact .inr (.inr ⟨_, _, rfl, rfl, q _ _ (.refl wd) (show Rel _ _ _ _ _ _ from .bl _)⟩)
  · cases e
def dLe (_ : Stor) : W → W → Option W
  | .d (.int i), .d (.int j) => some (.d (.bl (decide (i ≤ j))))
  | _, _ => none
def dGt (_ : Stor) : W → W → Option W
  | .d (.int i), .d (.int j) => some (.d (.bl (decide (j < i))))
  | _, _ => none
def dGe (_ : Stor) : W → W → Option W
  | .d (.int i), .d (.int j) => some (.d (.bl (decide (j ≤ i))))
  | _, _ => none
theorem opd_le : OpD g X (compareOp .LtE) dLe := OpD.of op_le fun m st H x y w1 w2 w Q wd r1 r2 e q => by
  unfold dLe at e
  split at e
  · cases e; cases r1; cases r2
    exact ⟨_, _, rfl, rfl, q _ _ (.refl wd) (show Rel _ _ _ _ _ _ from .bl _)⟩
  · cases e
theorem opd_gt : OpD g X (compareOp .Gt) dGt := OpD.of op_gt fun m st H x y w1 w2 w Q wd r1 r2 e q => by
  unfold dGt at e
  split at e
  · cases e; cases r1; cases r2
    exact ⟨_, _, rfl, rfl, q _ _ (.refl wd) (show Rel _ _ _ _ _ _ from .bl _)⟩
  · cases e
theorem opd_ge : OpD g X (compareOp .GtE) dGe := OpD.of op_ge fun m st H x y w1 w2 w Q wd r1 r2 e q => by
  unfold dGe at e
  split at e
  · cases e; cases r1; cases r2
    exact ⟨_, _, rfl, rfl, q _ _ (.refl wd) (show Rel _ _ _ _ _ _ from .bl _)⟩
  · cases e

/-! ### in, not in -/
def dInB (st : Stor) (w1 w2 : W) : Option Bool := (w1.py st).bind fun p => (w2.py st).bind fun q => match q with
  | .list l => if SeqAt.shaped p && SeqAt.shaped (.list l) then some (l.any fun z => PyData.eqv z p) else none
  | .tuple l => if SeqAt.shaped p && SeqAt.shaped (.tuple l) then some (l.any fun z => PyData.eqv z p) else none
  | _ => none
def dIn (st : Stor) (w1 w2 : W) : Option W := (dInB st w1 w2).map fun b => .d (.bl b)
def dNotIn (st : Stor) (w1 w2 : W) : Option W := (dInB st w1 w2).map fun b => .d (.bl (!b))
theorem dInB_some {st : Stor} {w1 w2 : W} {b : Bool} (h : dInB st w1 w2 = some b) : ∃ p l, w1.py st = some p ∧ SeqAt.shaped p = true ∧ b = (l.any fun z => PyData.eqv z p) ∧
    ((w2.py st = some (.list l) ∧ SeqAt.shaped (.list l) = true) ∨ (w2.py st = some (.tuple l) ∧ SeqAt.shaped (.tuple l) = true)) := by
  unfold dInB at h
  cases e1 : w1.py st with
  | none => rw [e1] at h; cases h
  | some p =>
    rw [e1] at h
    cases e2 : w2.py st with
    | none => rw [e2] at h; cases h
    | some q =>
      rw [e2] at h
      simp only [Option.bind_some] at h
      split at h
      · split at h
        · rename_i l z
          rw [Bool.and_eq_true] at z
          cases h
          exact ⟨p, l, rfl, z.1, rfl, .inl ⟨rfl, z.2⟩⟩
        · cases h
      · split at h
        · rename_i l z
          rw [Bool.and_eq_true] at z
          cases h
          exact ⟨p, l, rfl, z.1, rfl, .inr ⟨rfl, z.2⟩⟩
        · cases h
      · cases h
def rInT (K : PySem.W.Frag) : R2 := fun x y H Q => ∃ d ds, Dp K H x d ∧ Dp K H y (.tuple ds) ∧ SeqAt.shaped d = true ∧ SeqAt.shaped (.tuple ds) = true ∧ Q (.bl (ds.any fun z => PyData.eqv z d)) H
def rNotInT (K : PySem.W.Frag) : R2 := fun x y H Q => ∃ d ds, Dp K H x d ∧ Dp K H y (.tuple ds) ∧ SeqAt.shaped d = true ∧ SeqAt.shaped (.tuple ds) = true ∧ Q (.bl (!ds.any fun z => PyData.eqv z d)) H
theorem room_inT {A : Around} {d : PyData} {n : Nat} (h : SeqAt.shaped d = true) (hu : A.units + 65 < cLine) : A.units + 1 + min n d.depth < cLine := by
  have h1 := SeqAt.depth_of_shaped h
  have h2 : min n d.depth ≤ d.depth := Nat.min_le_right _ _
  omega
theorem op_inT (hu : X.A.units + 65 < cLine) : OpR X (compareOp .In) (rInT X.K) := by
  intro pins s σ H x y v u Q I rx ry h
  obtain ⟨d, ds, hd, he, sd, se, q⟩ := h
  obtain ⟨as, r1⟩ := Dp.reads I d x v hd rx
  obtain ⟨bs, r2⟩ := Dp.reads I (.tuple ds) y u he ry
  exact SeqAt.in_tuple_reads r2 r1 (SeqAt.canLay_of_shaped se) (SeqAt.canLay_of_shaped sd) (room_inT sd hu) ⟨.bl _, H, I, rfl, q⟩
theorem op_notInT (hu : X.A.units + 65 < cLine) : OpR X (compareOp .NotIn) (rNotInT X.K) := by
  intro pins s σ H x y v u Q I rx ry h
  obtain ⟨d, ds, hd, he, sd, se, q⟩ := h
  obtain ⟨as, r1⟩ := Dp.reads I d x v hd rx
  obtain ⟨bs, r2⟩ := Dp.reads I (.tuple ds) y u he ry
  exact SeqAt.notIn_tuple_reads r2 r1 (SeqAt.canLay_of_shaped se) (SeqAt.canLay_of_shaped sd) (room_inT sd hu) ⟨.bl _, H, I, rfl, q⟩
theorem opd_in (hK : X.K = g.K) (hu : X.A.units + 65 < cLine) : OpD g X (compareOp .In) dIn := OpD.of ((op_inD hu).or (op_inT hu)) fun m st H x y w1 w2 w Q wd r1 r2 e q => by
  unfold dIn at e
  cases z : dInB st w1 w2 with
  | none => rw [z] at e; cases e
  | some b =>
    rw [z] at e
    cases e
    obtain ⟨d1, l, e1, s1, rfl, ⟨e2, s2⟩ | ⟨e2, s2⟩⟩ := dInB_some z
    · exact .inl ⟨d1, l, hK ▸ r1.dp wd e1, hK ▸ r2.dp wd e2, s1, s2, q _ _ (.refl wd) (show Rel _ _ _ _ _ _ from .bl _)⟩
    · exact .inr ⟨d1, l, hK ▸ r1.dp wd e1, hK ▸ r2.dp wd e2, s1, s2, q _ _ (.refl wd) (show Rel _ _ _ _ _ _ from .bl _)⟩
theorem opd_notin (hK : X.K = g.K) (hu : X.A.units + 65 < cLine) : OpD g X (compareOp .NotIn) dNotIn := OpD.of ((op_notInD hu).or (op_notInT hu)) fun m st H x y w1 w2 w Q wd r1 r2 e q => by
  unfold dNotIn at e
  cases z : dInB st w1 w2 with
  | none => rw [z] at e; cases e
  | some b =>
    rw [z] at e
    cases e
    obtain ⟨d1, l, e1, s1, rfl, ⟨e2, s2⟩ | ⟨e2, s2⟩⟩ := dInB_some z
    · exact .inl ⟨d1, l, hK ▸ r1.dp wd e1, hK ▸ r2.dp wd e2, s1, s2, q _ _ (.refl wd) (show Rel _ _ _ _ _ _ from .bl _)⟩
    · exact .inr ⟨d1, l, hK ▸ r1.dp wd e1, hK ▸ r2.dp wd e2, s1, s2, q _ _ (.refl wd) (show Rel _ _ _ _ _ _ from .bl _)⟩

/-! ### + -/
def dAdd (st : Stor) : W → W → Option W
  | .d (.int i), .d (.int j) => some (.d (.int (i + j)))
  | .d (.str a), .d (.str b) => if decide (a.length + b.length ≤ 16777216) then some (.d (.str (a ++ b))) else none
  | .d (.tup a), .d (.tup b) => if decide (a.length + b.length ≤ 16777216) then some (.d (.tup (a ++ b))) else none
  | w1, w2 => (w1.asL st).bind fun a => (w2.asL st).bind fun b => if decide (a.length + b.length ≤ 16777216) then some (.n (a ++ b)) else none
theorem opd_add (hK : X.K = g.K) : OpD g X (binaryOp .Add) dAdd := OpD.of (op_add.or (op_add_str.or (op_catA.or op_cat))) fun m st H x y w1 w2 w Q wd r1 r2 e q => by
  unfold dAdd at e
  split at e
  · cases e; cases r1; cases r2
    exact .inl ⟨_, _, rfl, rfl, q _ _ (.refl wd) (show Rel _ _ _ _ _ _ from .int _)⟩
  · split at e
    · rename_i z
      cases e; cases r1; cases r2
      exact .inr (.inl ⟨_, _, rfl, rfl, by rw [sizeLine_eq]; exact of_decide_eq_true z, q _ _ (.refl wd) (show Rel _ _ _ _ _ _ from .str _)⟩)
    · cases e
  · split at e
    · rename_i a b z
      cases e
      obtain ⟨p1, xs1, rfl, s1, l1⟩ := r1.asT rfl
      obtain ⟨p2, xs2, rfl, s2, l2⟩ := r2.asT rfl
      refine .inr (.inr (.inl ⟨p1, p2, xs1, xs2, rfl, rfl, hK ▸ s1, hK ▸ s2, ?_, fun h0 => ?_, fun h0 h1 => ?_, fun h0 h1 p hp => ?_⟩))
      · rw [sizeLine_eq, l1.length, l2.length]; exact of_decide_eq_true z
      · subst h0
        cases l1
        exact q _ _ (.refl wd) r2
      · subst h1
        cases l2
        rw [List.append_nil] at q
        exact q _ _ (.refl wd) r1
      · exact q _ _ (step_new wd hp) (rel_newT wd hp (l1.append l2))
    · cases e
  · cases z1 : w1.asL st with
    | none => rw [z1] at e; cases e
    | some a =>
      cases z2 : w2.asL st with
      | none => rw [z1, z2] at e; cases e
      | some b =>
        rw [z1, z2] at e
        simp only [Option.bind_some] at e
        split at e
        · rename_i z
          cases e
          obtain ⟨p1, xs1, rfl, s1, l1⟩ := r1.asL wd z1
          obtain ⟨p2, xs2, rfl, s2, l2⟩ := r2.asL wd z2
          refine .inr (.inr (.inr ⟨p1, p2, xs1, xs2, rfl, rfl, s1, s2, ?_, fun p hp => ?_⟩))
          · rw [sizeLine_eq, l1.length, l2.length]; exact of_decide_eq_true z
          · exact q _ _ (step_new wd hp) (rel_newL wd hp (l1.append l2))
        · cases e
def dSub (_ : Stor) : W → W → Option W
  | .d (.int i), .d (.int j) => some (.d (.int (i - j)))
  | _, _ => none
theorem opd_sub : OpD g X (binaryOp .Sub) dSub := OpD.of op_sub fun m st H x y w1 w2 w Q wd r1 r2 e q => by
  unfold dSub at e
  split at e
  · cases e; cases r1; cases r2
    exact ⟨_, _, rfl, rfl, q _ _ (.refl wd) (show Rel _ _ _ _ _ _ from .int _)⟩
  · cases e
def small64 (i : Int) : Bool := decide (i.natAbs < 18446744073709551616)
def okMul (i j : Int) : Bool := small64 i || small64 j || decide (i.natAbs.log2 + j.natAbs.log2 < 1000000)
theorem small64_ok {i : Int} (h : small64 i = true) : -(2 ^ 64) < i ∧ i < 2 ^ 64 := by
  unfold small64 at h
  rw [decide_eq_true_eq] at h
  exact ⟨by omega, by omega⟩
def dFdiv (_ : Stor) : W → W → Option W
  | .d (.int i), .d (.int j) => if decide (0 < j) && decide (j.natAbs.log2 < 9000) then some (.d (.int (i / j))) else none
  | _, _ => none
theorem opd_fdiv : OpD g X (binaryOp .FloorDiv) dFdiv := OpD.of op_fdivW fun m st H x y w1 w2 w Q wd r1 r2 e q => by
  unfold dFdiv at e
  split at e
  · split at e
    · rename_i z
      rw [Bool.and_eq_true, decide_eq_true_eq, decide_eq_true_eq] at z
      cases e; cases r1; cases r2
      exact ⟨_, _, rfl, rfl, z, q _ _ (.refl wd) (show Rel _ _ _ _ _ _ from .int _)⟩
    · cases e
  · cases e
def dMod (_ : Stor) : W → W → Option W
  | .d (.int i), .d (.int j) => if decide (0 < j) then some (.d (.int (i % j))) else none
  | _, _ => none
theorem opd_mod : OpD g X (binaryOp .Mod) dMod := OpD.of op_mod fun m st H x y w1 w2 w Q wd r1 r2 e q => by
  unfold dMod at e
  split at e
  · split at e
    · rename_i z
      rw [decide_eq_true_eq] at z
      cases e; cases r1; cases r2
      exact ⟨_, _, rfl, rfl, z, q _ _ (.refl wd) (show Rel _ _ _ _ _ _ from .int _)⟩
    · cases e
  · cases e
def dPow (_ : Stor) : W → W → Option W
  | .d (.int i), .d (.int j) => if decide (0 ≤ j) && decide (j ≤ 1000000) && decide (i.natAbs < 18446744073709551616) then some (.d (.int (i ^ j.toNat))) else none
  | _, _ => none
theorem opd_pow : OpD g X (binaryOp .Pow) dPow := OpD.of op_pow fun m st H x y w1 w2 w Q wd r1 r2 e q => by
  unfold dPow at e
  split at e
  · split at e
    · rename_i z
      rw [Bool.and_eq_true, Bool.and_eq_true, decide_eq_true_eq, decide_eq_true_eq, decide_eq_true_eq] at z
      cases e; cases r1; cases r2
      exact ⟨_, _, rfl, rfl, ⟨z.1.1, z.1.2, z.2⟩, q _ _ (.refl wd) (show Rel _ _ _ _ _ _ from .int _)⟩
    · cases e
  · cases e
end
end DL

namespace DL
open PySem PySem.Spec PyProof.Rows L2
/-! ### equality -/
mutual
def D.eqv : D → D → Bool
  | .non, .non => true
  | .bl a, .bl b => a == b
  | .bl a, .int j => decide ((if a then 1 else 0) = j)
  | .int i, .bl b => decide (i = (if b then 1 else 0))
  | .int i, .int j => decide (i = j)
  | .str x, .str y => decide (x = y)
  | .tup a, .tup b => D.eqvL a b
  | .lst a, .lst b => D.eqvL a b
  | _, _ => false
def D.eqvL : List D → List D → Bool
  | [], [] => true
  | x :: xs, y :: ys => D.eqv x y && D.eqvL xs ys
  | _, _ => false
end
mutual
/-- data that may be compared: the depth at most n -/
def D.okd : Nat → D → Bool
  | _, .non => true
  | _, .bl _ => true
  | _, .int _ => true
  | _, .str x => PyData.strOk x
  | n + 1, .tup l => D.okL n l
  | n + 1, .lst l => D.okL n l
  | _, _ => false
def D.okL : Nat → List D → Bool
  | _, [] => true
  | n, x :: xs => D.okd n x && D.okL n xs
end
mutual
theorem okd_py : ∀ {n : Nat} {d : D}, d.okd n = true → ∃ p, d.py = some p ∧ p.canLay0 = true ∧ p.depth ≤ n
  | _, .non, _ => ⟨.none, rfl, rfl, Nat.zero_le _⟩
  | _, .bl b, _ => ⟨.bool b, rfl, rfl, Nat.zero_le _⟩
  | _, .int i, _ => ⟨.int i, rfl, rfl, Nat.zero_le _⟩
  | n, .str x, h => ⟨.str x, rfl, by cases n <;> (simp only [D.okd] at h; simpa only [PyData.canLay0] using h), Nat.zero_le _⟩
  | n + 1, .tup l, h => by
    simp only [D.okd] at h
    obtain ⟨ps, h1, h2, h3⟩ := okL_py h
    exact ⟨.tuple ps, by simp only [D.py, h1, Option.map_some], by simpa only [PyData.canLay0] using h2, by simp only [PyData.depth]; omega⟩
  | n + 1, .lst l, h => by
    simp only [D.okd] at h
    obtain ⟨ps, h1, h2, h3⟩ := okL_py h
    exact ⟨.list ps, by simp only [D.py, h1, Option.map_some], by simpa only [PyData.canLay0] using h2, by simp only [PyData.depth]; omega⟩
  | 0, .tup l, h => by simp [D.okd] at h
  | 0, .lst l, h => by simp [D.okd] at h
  | n, .fn i, h => by cases n <;> simp [D.okd] at h
  | n, .scr i, h => by cases n <;> simp [D.okd] at h
theorem okL_py : ∀ {n : Nat} {l : List D}, D.okL n l = true → ∃ ps, D.pyL l = some ps ∧ PyData.canLayAll0 ps = true ∧ PyData.depthAll ps ≤ n
  | n, [], _ => ⟨[], rfl, rfl, Nat.zero_le _⟩
  | n, d :: l, h => by
    simp only [D.okL, Bool.and_eq_true] at h
    obtain ⟨p, a1, a2, a3⟩ := okd_py h.1
    obtain ⟨ps, b1, b2, b3⟩ := okL_py h.2
    exact ⟨p :: ps, by simp only [D.pyL, a1, b1, Option.bind_some, Option.map_some], by simp only [PyData.canLayAll0, a2, b2, Bool.and_self], by simp only [PyData.depthAll]; omega⟩
end
theorem eqv_swap_int {i j : Int} : (i == j) = decide (i = j) := by
  by_cases h : i = j
  · simp [h]
  · simp [h]
theorem str_beq {x y : Str} : (x == y) = decide (x = y) := by
  by_cases h : x = y
  · simp [h]
  · rw [decide_eq_false h]
    exact beq_eq_false_iff_ne.mpr h
mutual
theorem eqv_py : ∀ {x y : D} {p q : PyData}, x.py = some p → y.py = some q → PyData.eqv p q = D.eqv x y
  | .tup l, .tup m, p, q, h1, h2 => by
    simp only [D.py, Option.map_eq_some_iff] at h1 h2
    obtain ⟨ps, a1, rfl⟩ := h1
    obtain ⟨qs, a2, rfl⟩ := h2
    simp only [PyData.eqv, D.eqv]
    exact eqvL_py a1 a2
  | .lst l, .lst m, p, q, h1, h2 => by
    simp only [D.py, Option.map_eq_some_iff] at h1 h2
    obtain ⟨ps, a1, rfl⟩ := h1
    obtain ⟨qs, a2, rfl⟩ := h2
    simp only [PyData.eqv, D.eqv]
    exact eqvL_py a1 a2
  | .non, y, p, q, h1, h2 => by
    simp only [D.py] at h1
    cases h1
    cases y <;> simp only [D.py, Option.map_eq_some_iff, Option.some.injEq, reduceCtorEq] at h2 <;> first | (subst h2; simp [PyData.eqv, D.eqv]; done) | (obtain ⟨_, _, rfl⟩ := h2; simp [PyData.eqv, D.eqv]; done)
  | .bl b, y, p, q, h1, h2 => by
    simp only [D.py] at h1
    cases h1
    cases y <;> simp only [D.py, Option.map_eq_some_iff, Option.some.injEq, reduceCtorEq] at h2 <;> first | (subst h2; simp [PyData.eqv, D.eqv, eqv_swap_int]; done) | (obtain ⟨_, _, rfl⟩ := h2; simp [PyData.eqv, D.eqv]; done)
  | .int b, y, p, q, h1, h2 => by
    simp only [D.py] at h1
    cases h1
    cases y <;> simp only [D.py, Option.map_eq_some_iff, Option.some.injEq, reduceCtorEq] at h2 <;> first | (subst h2; simp [PyData.eqv, D.eqv, eqv_swap_int]; done) | (obtain ⟨_, _, rfl⟩ := h2; simp [PyData.eqv, D.eqv]; done)
  | .str b, y, p, q, h1, h2 => by
    simp only [D.py] at h1
    cases h1
    cases y <;> simp only [D.py, Option.map_eq_some_iff, Option.some.injEq, reduceCtorEq] at h2 <;> first | (subst h2; simp [PyData.eqv, D.eqv, str_beq]; done) | (obtain ⟨_, _, rfl⟩ := h2; simp [PyData.eqv, D.eqv]; done)
  | .tup l, .non, p, q, h1, h2 | .tup l, .bl _, p, q, h1, h2 | .tup l, .int _, p, q, h1, h2 | .tup l, .str _, p, q, h1, h2 | .lst l, .non, p, q, h1, h2 | .lst l, .bl _, p, q, h1, h2 | .lst l, .int _, p, q, h1, h2 | .lst l, .str _, p, q, h1, h2 => by
    simp only [D.py, Option.map_eq_some_iff, Option.some.injEq] at h1 h2
    obtain ⟨_, _, rfl⟩ := h1
    subst h2
    simp [PyData.eqv, D.eqv]
  | .tup l, .lst m, p, q, h1, h2 | .lst l, .tup m, p, q, h1, h2 => by
    simp only [D.py, Option.map_eq_some_iff] at h1 h2
    obtain ⟨_, _, rfl⟩ := h1
    obtain ⟨_, _, rfl⟩ := h2
    simp [PyData.eqv, D.eqv]
  | .tup l, .fn _, p, q, h1, h2 | .tup l, .scr _, p, q, h1, h2 | .lst l, .fn _, p, q, h1, h2 | .lst l, .scr _, p, q, h1, h2 => by simp [D.py] at h2
  | .fn i, y, p, q, h1, h2 | .scr i, y, p, q, h1, h2 => by simp [D.py] at h1
theorem eqvL_py : ∀ {x y : List D} {p q : List PyData}, D.pyL x = some p → D.pyL y = some q → PyData.eqvAll p q = D.eqvL x y
  | [], [], p, q, h1, h2 => by cases h1; cases h2; simp [PyData.eqvAll, D.eqvL]
  | [], y :: ys, p, q, h1, h2 => by
    cases h1
    simp only [D.pyL, Option.bind_eq_some_iff, Option.map_eq_some_iff] at h2
    obtain ⟨_, _, _, _, rfl⟩ := h2
    simp [PyData.eqvAll, D.eqvL]
  | x :: xs, [], p, q, h1, h2 => by
    cases h2
    simp only [D.pyL, Option.bind_eq_some_iff, Option.map_eq_some_iff] at h1
    obtain ⟨_, _, _, _, rfl⟩ := h1
    simp [PyData.eqvAll, D.eqvL]
  | x :: xs, y :: ys, p, q, h1, h2 => by
    simp only [D.pyL, Option.bind_eq_some_iff, Option.map_eq_some_iff] at h1 h2
    obtain ⟨a, e1, as, e2, rfl⟩ := h1
    obtain ⟨b, e3, bs, e4, rfl⟩ := h2
    simp only [PyData.eqvAll, D.eqvL]
    rw [eqv_py e1 e3, eqvL_py e2 e4]
end
end DL

set_option maxHeartbeats 4000000
namespace DL
open PySem PySem.Spec PyProof.Rows L2
theorem tuple_mul1 (l : Addr) (items : Array Value) (n : Nat) (dd : Option Addr) (sl : Array (Option Value)) (x : Int) (u : Tok) (c0 : (decide (x < -(2 ^ 63)) || decide (x ≥ 2 ^ 63)) = false) (c1 : (items.isEmpty || x == 1) = true) :
    Meets (Builtin.«tuple.__mul__» ⟨[.ref l, .int x u], []⟩) (fun _ R s => s.heap.get? l = some { cls := .type "tuple", dict := dd, data := .seq items n, slots := sl } ∧
      R (.ok (.ret (Value.ref l))) s) :=
  .of_wp fun prog w A R s h => by
    obtain ⟨hp, g, d, tk, os⟩ := s
    obtain ⟨hl, h⟩ := h
    have f1 := AutoSeq1.idx_int
    wp_walk using wpAny_loadPart' hl
    repeat (first
      | (refine wpAny_ite_false (decide_eq_false (by rw [c0]; exact Bool.false_ne_true)) ?_; wp_walk using wpAny_loadPart' hl)
      | (refine wpAny_ite_true (decide_eq_true c1) ?_; wp_walk using wpAny_loadPart' hl))
    exact ⟨_, rfl, h⟩
theorem tuple_mul0 (l : Addr) (items : Array Value) (n : Nat) (dd : Option Addr) (sl : Array (Option Value)) (x : Int) (u : Tok) (c0 : (decide (x < -(2 ^ 63)) || decide (x ≥ 2 ^ 63)) = false) (c1 : (items.isEmpty || x == 1) = false) (c2 : (decide (x ≤ 0) || items.isEmpty) = true) :
    Meets (Builtin.«tuple.__mul__» ⟨[.ref l, .int x u], []⟩) (fun _ R s => s.heap.get? l = some { cls := .type "tuple", dict := dd, data := .seq items n, slots := sl } ∧
      R (.ok (.ret (Value.ref s.heap.objs.size))) { s with heap := s.heap.push { cls := Value.type "tuple", data := Data.seq #[] }, toks := s.toks }) :=
  .of_wp fun prog w A R s h => by
    obtain ⟨hp, g, d, tk, os⟩ := s
    obtain ⟨hl, h⟩ := h
    have f1 := AutoSeq1.idx_int
    wp_walk using wpAny_loadPart' hl
    repeat (first
      | (refine wpAny_ite_false (decide_eq_false (by rw [c0]; exact Bool.false_ne_true)) ?_; wp_walk using wpAny_loadPart' hl)
      | (refine wpAny_ite_false (decide_eq_false (by rw [c1]; exact Bool.false_ne_true)) ?_; wp_walk using wpAny_loadPart' hl)
      | (refine wpAny_ite_true (decide_eq_true c2) ?_; wp_walk using wpAny_loadPart' hl))
    exact ⟨_, rfl, h⟩

/-- a tuple many times over, a million items at most -/
def rFew (K : PySem.W.Frag) : R2 := fun x y H Q => ∃ l j ws, x = V.ref l ∧ y = V.int j ∧ SqT K H l ws ∧ ws.isEmpty = false ∧ 2 ≤ j ∧ j ≤ 10000 ∧ ws.length ≤ 1000 ∧ ∀ p, H p = none → Q (.ref p) (upd H p (.tup (List.replicate j.toNat ws).flatten))
theorem op_few {X : Cx} : OpR X (binaryOp .Mult) (rFew X.K) := by
  intro pins s σ H x y v u Q I rx ry h
  obtain ⟨l, j, ws, rfl, rfl, hT, hne, lo, hi, few, q⟩ := h
  obtain ⟨t, rfl⟩ := ry
  cases rx
  obtain ⟨us, r, ⟨⟨c, e, dt, sl⟩, ho, hcl, n, hdt⟩, _⟩ := I.tuple hT
  obtain rfl : c = _ := hcl
  obtain rfl : dt = _ := hdt
  have len : us.length = ws.length := r.length.symm
  have emp : us.toArray.isEmpty = false := by
    cases us with
    | cons a b => rfl
    | nil =>
      cases ws with
      | nil => cases hne
      | cons _ _ => cases len
  have size : us.toArray.size = ws.length := by simpa using len
  have nat : j.toNat * ws.length ≤ 10000 * 1000 := Nat.mul_le_mul (by omega) few
  have prod : ((us.toArray.size : Nat) : Int) * j ≤ 10000000 := by
    rw [size]
    have e1 : j = ((j.toNat : Nat) : Int) := by omega
    have e2 : ((ws.length : Nat) : Int) * ((j.toNat : Nat) : Int) = ((j.toNat * ws.length : Nat) : Int) := by rw [Nat.mul_comm, Int.natCast_mul]
    rw [e1, e2]
    omega
  have flat : (List.replicate j.toNat us).flatten.length ≤ sizeLine := by
    rw [PyProof.Rows.lm_len_rep_flat, len, sizeLine_eq]
    omega
  have k0 : (decide (j < -(2 ^ 63)) || decide (j ≥ 2 ^ 63)) = false := by
    have a1 : decide (j < -(2 ^ 63)) = false := decide_eq_false (by omega)
    have a2 : decide (j ≥ 2 ^ 63) = false := decide_eq_false (by omega)
    rw [a1, a2]
    rfl
  have k1 : (us.toArray.isEmpty || j == 1) = false := by
    have : (j == 1) = false := beq_eq_false_iff_ne.mpr (by omega)
    rw [emp, this]
    rfl
  have k2 : (decide (j ≤ 0) || us.toArray.isEmpty) = false := by
    have : decide (j ≤ 0) = false := decide_eq_false (by omega)
    rw [emp, this]
    rfl
  have k4 : Builtin.Tuple.tupleTooMany (((us.toArray.size : Nat) : Int) * j) = false := by
    unfold Builtin.Tuple.tupleTooMany
    rw [sizeLine_eq]
    exact decide_eq_false (by omega)
  have room : (List.foldl (fun a b => a ++ b) #[] (List.replicate j.toNat us.toArray)).size ≤ sizeLine := by
    rw [size_rep, List.size_toArray]
    exact flat
  have times := tuple_mulW l us.toArray n e sl j t k0 k1 k2 (by omega) k4 room
  have other := int_rmul_tuple j t l us.toArray n e sl
  have here : s.TypeIs (.ref l) "tuple" := ⟨_, ho, rfl⟩
  refine wpAny_binaryOp_repeat_ref (T := "tuple") (U := "int") (by decide) here (fun z => typeIs_int z j t) noFill_tuple_mul F.fills_int_mul F.slot_int_rmul repeat_tuple F.slot_int_index.lookup ?_
  refine call_meets F.slot_int_rmul (typeIs_int s j t) F.entry_int_rmul (F.args_int_rmul_2 _ _) other ⟨ho, rfl, here, ?_⟩
  refine call_meets F.slot_tuple_mul here F.entry_tuple_mul (F.args_tuple_mul_2 _ _) times ⟨ho, ?_⟩
  rw [size_rep]
  have fl : ((List.replicate j.toNat ws).flatten).length ≤ sizeLine := by
    rw [PyProof.Rows.lm_len_rep_flat, sizeLine_eq]
    omega
  have laid := I.laid (t' := s.toks) (o := .tup (List.replicate j.toNat ws).flatten) (fun b ob e => Heap.get?_push_of_some _ e) (Nat.le_refl _) ⟨fl, _, r.rep j.toNat, IsTup.new _ _⟩
  exact ⟨.ref _, _, laid, rfl, q _ (I.hok.fresh (Nat.le_refl _))⟩
def rMulT (K : PySem.W.Frag) : R2 := fun x y H Q => ∃ l k xs, x = .ref l ∧ y = .int k ∧ SqT K H l xs ∧ -10000 ≤ k ∧ k ≤ 10000 ∧ xs.length ≤ 1000 ∧ ((xs = [] ∨ k = 1) → Q (.ref l) H) ∧
  (xs ≠ [] → k ≠ 1 → ∀ p, H p = none → Q (.ref p) (upd H p (.tup (List.replicate k.toNat xs).flatten)))
theorem op_mulT {X : Cx} : OpR X (binaryOp .Mult) (rMulT X.K) := by
  intro pins s σ H x y v u Q I rx ry h
  obtain ⟨l, k, xs, rfl, rfl, hT, h1, h2, hz, q1, q2⟩ := h
  by_cases hbig : xs ≠ [] ∧ 2 ≤ k
  · exact op_few pins s σ H _ _ v u Q I rx ry ⟨l, k, xs, rfl, rfl, hT, by cases xs with | nil => exact absurd rfl hbig.1 | cons _ _ => rfl, hbig.2, h2, hz, q2 hbig.1 (by omega)⟩
  cases rx
  obtain ⟨t, rfl⟩ := ry
  obtain ⟨its, r, ⟨⟨cls, dd, data, sl⟩, ho, hc, n, hd⟩, hs⟩ := I.tuple hT
  simp only at hc hd
  subst hc hd
  have hle : its.length = xs.length := r.length.symm
  have hi : its.toArray.isEmpty = xs.isEmpty := by
    cases r <;> rfl
  have c0 : (decide (k < -(2 ^ 63)) || decide (k ≥ 2 ^ 63)) = false := by
    rw [decide_eq_false (by omega), decide_eq_false (by omega)] <;> rfl
  by_cases h1 : xs = [] ∨ k = 1
  · have c1 : (its.toArray.isEmpty || k == 1) = true := by
      rw [hi]
      rcases h1 with e | e
      · rw [e]; rfl
      · rw [e]; simp
    refine wpAny_binaryOp_repeat_ref (T := "tuple") (U := "int") (by decide) ⟨_, ho, rfl⟩ (fun s' => typeIs_int s' k t) noFill_tuple_mul F.fills_int_mul F.slot_int_rmul repeat_tuple F.slot_int_index.lookup
      (call_meets F.slot_int_rmul (typeIs_int s k t) F.entry_int_rmul (F.args_int_rmul_2 _ _) (int_rmul_tuple k t l its.toArray n dd sl)
        ⟨ho, rfl, ⟨_, ho, rfl⟩, call_meets F.slot_tuple_mul ⟨_, ho, rfl⟩ F.entry_tuple_mul (F.args_tuple_mul_2 _ _) (tuple_mul1 l its.toArray n dd sl k t c0 c1) ⟨ho, ?_⟩⟩)
    exact ⟨.ref l, H, I, rfl, q1 h1⟩
  · have hx : xs ≠ [] := fun e => h1 (.inl e)
    have hk : k ≠ 1 := fun e => h1 (.inr e)
    have hle0 : k ≤ 0 := by
      have hb : ¬ 2 ≤ k := fun z => hbig ⟨hx, z⟩
      omega
    have hie : xs.isEmpty = false := by
      cases xs with
      | nil => exact absurd rfl hx
      | cons _ _ => rfl
    have c1 : (its.toArray.isEmpty || k == 1) = false := by
      rw [hi, hie, Bool.false_or]
      exact beq_eq_false_iff_ne.mpr hk
    have c2 : (decide (k ≤ 0) || its.toArray.isEmpty) = true := by
      rw [decide_eq_true hle0]
      rfl
    refine wpAny_binaryOp_repeat_ref (T := "tuple") (U := "int") (by decide) ⟨_, ho, rfl⟩ (fun s' => typeIs_int s' k t) noFill_tuple_mul F.fills_int_mul F.slot_int_rmul repeat_tuple F.slot_int_index.lookup
      (call_meets F.slot_int_rmul (typeIs_int s k t) F.entry_int_rmul (F.args_int_rmul_2 _ _) (int_rmul_tuple k t l its.toArray n dd sl)
        ⟨ho, rfl, ⟨_, ho, rfl⟩, call_meets F.slot_tuple_mul ⟨_, ho, rfl⟩ F.entry_tuple_mul (F.args_tuple_mul_2 _ _) (tuple_mul0 l its.toArray n dd sl k t c0 c1 c2) ⟨ho, ?_⟩⟩)
    have e0 : (List.replicate k.toNat xs).flatten = [] := by
      have : k.toNat = 0 := by omega
      rw [this]
      rfl
    have q := q2 hx hk s.heap.objs.size (I.hok.fresh (Nat.le_refl _))
    rw [e0] at q
    refine ⟨.ref s.heap.objs.size, _, I.laid (t' := s.toks) (o := .tup []) (fun b ob q => Heap.get?_push_of_some _ q) (Nat.le_refl _) ?_, rfl, q⟩
    exact ⟨Nat.zero_le _, [], .nil, IsTup.new _ _⟩
theorem RelL.rep {g : G} {m st H vs ds} (r : RelL g m st H vs ds) : ∀ n, RelL g m st H (List.replicate n vs).flatten (List.replicate n ds).flatten
  | 0 => .nil
  | n + 1 => by
    rw [List.replicate_succ, List.flatten_cons, List.replicate_succ, List.flatten_cons]
    exact r.append (RelL.rep r n)
def dMul (st : Stor) : W → W → Option W
  | .d (.int i), .d (.int j) => if okMul i j then some (.d (.int (i * j))) else none
  | .d (.tup a), .d (.int k) => if decide (k.natAbs ≤ 10000) && decide (a.length ≤ 1000) then some (.d (.tup (List.replicate k.toNat a).flatten)) else none
  | w, .d (.int k) => (w.asL st).bind fun a => if decide (k.natAbs ≤ 1000000) && decide (a.length * k.toNat ≤ 16777216) then some (.n (List.replicate k.toNat a).flatten) else none
  | _, _ => none
theorem opd_mul {g : G} {X : Cx} (hK : X.K = g.K) : OpD g X (binaryOp .Mult) dMul := OpD.of (op_mul.or (op_mulW.or (op_mulT.or op_rep))) fun m st H x y w1 w2 w Q wd r1 r2 e q => by
  unfold dMul at e
  split at e
  · split at e
    · rename_i z
      cases e; cases r1; cases r2
      unfold okMul at z
      rw [Bool.or_eq_true, Bool.or_eq_true, decide_eq_true_eq] at z
      rcases z with (z | z) | z
      · exact .inl ⟨_, _, rfl, rfl, .inl (small64_ok z), q _ _ (.refl wd) (show Rel _ _ _ _ _ _ from .int _)⟩
      · exact .inl ⟨_, _, rfl, rfl, .inr (small64_ok z), q _ _ (.refl wd) (show Rel _ _ _ _ _ _ from .int _)⟩
      · exact .inr (.inl ⟨_, _, rfl, rfl, z, q _ _ (.refl wd) (show Rel _ _ _ _ _ _ from .int _)⟩)
    · cases e
  · split at e
    · rename_i a k z
      rw [Bool.and_eq_true, decide_eq_true_eq, decide_eq_true_eq] at z
      cases e
      obtain ⟨p1, xs1, rfl, s1, l1⟩ := r1.asT rfl
      cases r2
      have hl := l1.length
      refine .inr (.inr (.inl ⟨p1, k, xs1, rfl, rfl, hK ▸ s1, by omega, by omega, by omega, fun h => ?_, fun _ _ p hp => q _ _ (step_new wd hp) (rel_newT wd hp (l1.rep _))⟩))
      have e2 : (List.replicate k.toNat a).flatten = a := by
        rcases h with h | h
        · subst h
          cases l1
          induction k.toNat with
          | zero => rfl
          | succ n ih => rw [List.replicate_succ, List.flatten_cons, ih]; rfl
        · subst h
          show (List.replicate 1 a).flatten = a
          simp
      rw [e2] at q
      exact q _ _ (.refl wd) r1
    · cases e
  · rename_i w1' k _ _
    cases z1 : w1.asL st with
    | none => rw [z1] at e; cases e
    | some a =>
      rw [z1] at e
      simp only [Option.bind_some] at e
      split at e
      · rename_i z
        rw [Bool.and_eq_true, decide_eq_true_eq, decide_eq_true_eq] at z
        cases e
        obtain ⟨p1, xs1, rfl, s1, l1⟩ := r1.asL wd z1
        cases r2
        refine .inr (.inr (.inr ⟨p1, _, xs1, rfl, rfl, s1, by omega, by omega, ?_, fun p hp => q _ _ (step_new wd hp) (rel_newL wd hp (l1.rep _))⟩))
        rw [sizeLine_eq, l1.length]; exact z.2
      · cases e
  · cases e
end DL

/-! DL: subscripts, slices, calls. -/
namespace DL
open PySem PySem.Spec PyProof.Rows L2
section
variable {c : Cf} {X : Cx} {Wx : WX} {a b e3 : Expr} {fa fb f3 : Den} {pos p2 : Pos}
/-! ### -a -/
def W.neg : W → Option W
  | .d (.int i) => some (.d (.int (-i)))
  | _ => none
@[simp] def eNeg (f : Den) : Den := fun env st => (f env st).bind fun w st => .ofO w.neg st
theorem re_neg (ha : RE c X Wx a fa) : RE c X Wx (.UnaryOp .USub a pos) (eNeg fa) := ⟨fun am tk => by
  obtain ⟨t, p, v⟩ := ha.ex am tk
  refine ⟨_, pe_un un_neg p, fun σ H env m st Q E w h => v σ H env m st _ E w (Post.bind (RA := RW_ c.g m) back_w h fun w1 st1 _ x H1 s1 r1 h => ?_)⟩
  obtain ⟨w2, e, h⟩ := h.ofO
  unfold W.neg at e
  split at e
  · cases e
    cases r1
    exact ⟨_, rfl, h.ok s1.wd (show Rel _ _ _ _ _ _ from .int _)⟩
  · cases e⟩

/-! ### a[i] -/
def dIx (st : Stor) : W → W → Option W
  | .d (.str s), .d (.int i) => if decide (s.length ≤ 16777216) then (atI s.cps.toList i).map fun ch => .d (.str ⟨#[ch]⟩) else none
  | .d (.tup l), .d (.int i) => (atI l i).map .d
  | w, .d (.int i) => (w.asL st).bind fun l => (atI l i).map .d
  | _, _ => none
theorem RelL.atI {g : G} {m st H} {vs : List V} {ds : List D} {i : Int} {d : D} (r : RelL g m st H vs ds) (e : L2.atI ds i = some d) : ∃ v, L2.atI vs i = some v ∧ Rel g m st H v d := by
  unfold L2.atI at e ⊢
  rw [r.length]
  cases z : ixN ds.length i with
  | none => rw [z] at e; cases e
  | some j =>
    rw [z] at e
    exact r.get j e
theorem dIx_ok {g : G} {X : Cx} (hK : X.K = g.K) (m : Mm) (st : Stor) (H : Hp) (x y : V) (w1 w2 w : W) (Q : VK) (wd : Wd g m st H) (r1 : RelW0 g m st H x w1) (r2 : RelW0 g m st H y w2) (e : dIx st w1 w2 = some w)
    (q : ∀ v H', Step g m st H m st H' → RelW g m st H H' v w → Q v H') : rIx X.K x y H Q := by
  unfold dIx at e
  split at e
  · split at e
    · rename_i s i z
      cases z1 : atI s.cps.toList i with
      | none => rw [z1] at e; cases e
      | some ch =>
        rw [z1] at e
        cases e; cases r1; cases r2
        exact .inr (.inr ⟨s, i, ch, rfl, rfl, by rw [sizeLine_eq]; exact of_decide_eq_true z, z1, q _ _ (.refl wd) (show Rel _ _ _ _ _ _ from .str _)⟩)
    · cases e
  · rename_i l i
    cases z1 : atI l i with
    | none => rw [z1] at e; cases e
    | some d =>
      rw [z1] at e
      cases e
      obtain ⟨p, xs, rfl, s1, l1⟩ := r1.asT rfl
      cases r2
      obtain ⟨v, h1, h2⟩ := l1.atI z1
      exact .inr (.inl ⟨p, xs, i, v, rfl, rfl, hK ▸ s1, h1, q _ _ (.refl wd) (show Rel _ _ _ _ _ _ from h2)⟩)
  · rename_i i _ _
    cases z0 : w1.asL st with
    | none => rw [z0] at e; cases e
    | some l =>
      rw [z0] at e
      simp only [Option.bind_some] at e
      cases z1 : atI l i with
      | none => rw [z1] at e; cases e
      | some d =>
        rw [z1] at e
        cases e
        obtain ⟨p, xs, rfl, s1, l1⟩ := r1.asL wd z0
        cases r2
        obtain ⟨v, h1, h2⟩ := l1.atI z1
        exact .inl ⟨p, xs, i, v, rfl, rfl, SqL.of s1, h1, q _ _ (.refl wd) (show Rel _ _ _ _ _ _ from h2)⟩
  · cases e
theorem re_ix (ha : RE c X Wx a fa) (hb : RE c X Wx b fb) (hs : PlainIx b := by exact fun _ _ => rfl) : RE c X Wx (.Subscript a b pos) (eOp dIx fa fb) := ⟨fun am tk => by
  obtain ⟨t1, p1, v1⟩ := ha.ex am tk
  obtain ⟨t2, p2, v2⟩ := hb.ex am tk
  exact ⟨_, pe_ix ix_seq p1 p2 hs, val_op (f := compareOp .Eq) (dIx_ok am.K) v1 v2⟩⟩

/-! ### a[lo:hi] -/
abbrev DenO := Envi → Stor → Res (Option Int)
def W.asI : W → Option Int
  | .d (.int i) => some i
  | _ => none
theorem RelW0.asI {g : G} {m st H v} : ∀ {w : W} {i : Int}, RelW0 g m st H v w → w.asI = some i → v = .int i
  | .d (.int b'), b, r, e => by
    cases e
    cases r
    rfl
abbrev RO_ : Stor → Hp → Hp → Option Int → Option Int → Prop := fun _ _ _ b c => b = c
theorem back_o : Back RO_ := fun _ _ _ _ _ _ _ r => r
structure RO (c : Cf) (X : Cx) (Wx : WX) (e : Option Expr) (f : DenO) : Prop where
  ex : Amb c X → L2N.Takes X Wx → ∃ t, PO X e t ∧ ∀ σ H env m st Q, EnvR c.g m st H σ env → Wd c.g m st H → Post c.g m σ Wx st H RO_ (f env st) Q → t σ H Q
@[simp] def oNone : DenO := fun _ st => .ok none st
@[simp] def oSome (f : Den) : DenO := fun env st => (f env st).bind fun w st => (Res.ofO w.asI st).bind fun i st => .ok (some i) st
theorem ro_none : RO c X Wx none oNone := ⟨fun _ _ => ⟨_, po_none, fun σ H env m st Q E w h => h.ok w rfl⟩⟩
theorem ro_some (ha : RE c X Wx a fa) : RO c X Wx (some a) (oSome fa) := ⟨fun am tk => by
  obtain ⟨t, p, v⟩ := ha.ex am tk
  refine ⟨_, po_some p, fun σ H env m st Q E w h => v σ H env m st _ E w (Post.bind (RA := RW_ c.g m) back_o h fun w1 st1 _ x H1 s1 r1 h => ?_)⟩
  cases z : w1.asI with
  | none => rw [z] at h; exact h.elim
  | some i =>
    rw [z] at h
    exact ⟨i, r1.w0.asI z, h.ok s1.wd rfl⟩⟩
def cutD (xs : List D) (lo hi : Option Int) : List D := (xs.drop (HT.sIx xs.length 0 lo)).take (HT.sIx xs.length xs.length hi - HT.sIx xs.length 0 lo)
theorem RelL.cut {g : G} {m st H} {vs : List V} {ds : List D} (r : RelL g m st H vs ds) (lo hi : Option Int) : RelL g m st H (cutV vs lo hi) (cutD ds lo hi) := by
  unfold cutV cutD
  rw [r.length]
  exact (r.drop _).take _
def dSl (st : Stor) (w : W) (lo hi : Option Int) : Option W := match w with
  | .d (.str s) => if decide (s.length ≤ 16777216) then some (.d (.str (cutS s lo hi))) else none
  | .d (.tup l) => some (.d (.tup (cutD l lo hi)))
  | w => (w.asL st).map fun l => .n (cutD l lo hi)
@[simp] def eSl (f : Den) (lo hi : DenO) : Den := fun env st => (f env st).bind fun w st => (lo env st).bind fun l st => (hi env st).bind fun h st => .ofO (dSl st w l h) st
theorem sIx_whole {α : Type} {xs : List α} {lo hi : Option Int} (h : HT.sIx xs.length 0 lo = 0 ∧ HT.sIx xs.length xs.length hi = xs.length) : (xs.drop (HT.sIx xs.length 0 lo)).take (HT.sIx xs.length xs.length hi - HT.sIx xs.length 0 lo) = xs := by
  rw [h.1, h.2]
  simp
theorem re_sl {lo hi : Option Expr} {fl fh : DenO} (ha : RE c X Wx a fa) (hl : RO c X Wx lo fl) (hh : RO c X Wx hi fh) : RE c X Wx (.Subscript a (.Slice lo hi none p2) pos) (eSl fa fl fh) := ⟨fun am tk => by
  obtain ⟨t1, p1, v1⟩ := ha.ex am tk
  obtain ⟨t2, p2, v2⟩ := hl.ex am tk
  obtain ⟨t3, p3, v3⟩ := hh.ex am tk
  refine ⟨_, pe_slice (sl_list.or (sl_tupA.or sl_str)) p1 p2 p3, fun σ H env m st Q E w h => v1 σ H env m st _ E w (Post.bind (RA := RW_ c.g m) back_w h fun w1 st1 _ x H1 s1 r1 h => ?_)⟩
  refine v2 σ H1 env m st1 _ (E.ext s1.ext s1.pre) s1.wd (Post.bind (RA := RO_) back_w h fun l st2 _ l' H2 s2 rl h => ?_)
  cases (show l' = l from rl)
  have s12 := s1.trans s2
  refine v3 σ H2 env m st2 _ (E.ext s12.ext s12.pre) s2.wd (Post.bind (RA := RO_) back_w h fun u st3 _ u' H3 s3 ru h => ?_)
  cases (show u' = u from ru)
  obtain ⟨w2, e, h⟩ := h.ofO
  have r3 := (r1.w0.ext s2.ext).ext s3.ext
  unfold dSl at e
  split at e
  · split at e
    · rename_i z
      cases e; cases r3
      exact .inr (.inr ⟨_, rfl, by rw [sizeLine_eq]; exact of_decide_eq_true z, h.ok s3.wd (show Rel _ _ _ _ _ _ from .str _)⟩)
    · cases e
  · cases e
    obtain ⟨p, xs, rfl, q1, l1⟩ := r3.asT rfl
    refine .inr (.inl ⟨p, xs, rfl, am.K ▸ q1, fun hw => ?_, fun hw q hq => h.okS (step_new s3.wd hq) (rel_newT s3.wd hq (l1.cut l u))⟩)
    rw [l1.length] at hw
    have e2 := sIx_whole hw
    unfold cutD at h
    rw [e2] at h
    exact h.ok s3.wd r3
  · cases z0 : w1.asL st3 with
    | none => rw [z0] at e; cases e
    | some ds =>
      rw [z0] at e
      cases e
      obtain ⟨p, xs, rfl, q1, l1⟩ := r3.asL s3.wd z0
      exact .inl ⟨p, xs, rfl, SqL.of q1, fun q hq => h.okS (step_new s3.wd hq) (rel_newL s3.wd hq (l1.cut l u))⟩⟩

/-! ### argument lists -/
inductive RelWs (g : G) (m : Mm) (st : Stor) (H : Hp) : List V → List W → Prop
  | nil : RelWs g m st H [] []
  | cons {v w vs ws} : RelW0 g m st H v w → RelWs g m st H vs ws → RelWs g m st H (v :: vs) (w :: ws)
abbrev DenA := Envi → Stor → Res (List W)
abbrev RWs_ (g : G) (m : Mm) : Stor → Hp → Hp → List V → List W → Prop := fun st _ H vs ds => RelWs g m st H vs ds
theorem back_ws {g : G} {m : Mm} : Back (RWs_ g m) := fun _ _ _ _ _ _ _ r => r
structure RAs (c : Cf) (X : Cx) (Wx : WX) (es : List Expr) (f : DenA) : Prop where
  ex : Amb c X → L2N.Takes X Wx → ∃ t, PA X es t ∧ ∀ σ H env m st Q, EnvR c.g m st H σ env → Wd c.g m st H → Post c.g m σ Wx st H (RWs_ c.g m) (f env st) Q → t σ H Q
@[simp] def gNil : DenA := fun _ st => .ok [] st
@[simp] def gCons (f : Den) (r : DenA) : DenA := fun env st => (f env st).bind fun w st => (r env st).bind fun ws st => .ok (w :: ws) st
theorem ras_nil : RAs c X Wx [] gNil := ⟨fun _ _ => ⟨_, pa_nil, fun σ H env m st Q E w h => h.ok w (show RelWs _ _ _ _ _ _ from .nil)⟩⟩
theorem ras_cons {e : Expr} {es : List Expr} {f : Den} {r : DenA} (he : RE c X Wx e f) (hr : RAs c X Wx es r) (hs : starEach (e :: es) X.env = (false, eval e X.env) :: starEach es X.env := by rfl) : RAs c X Wx (e :: es) (gCons f r) := ⟨fun a tk => by
  obtain ⟨t1, p1, v1⟩ := he.ex a tk
  obtain ⟨t2, p2, v2⟩ := hr.ex a tk
  refine ⟨_, pa_cons p1 p2 hs, fun σ H env m st Q E w h => ?_⟩
  refine v1 σ H env m st _ E w (Post.bind (RA := RW_ c.g m) back_ws h fun w1 st1 _ v H1 s1 r1 h => ?_)
  refine v2 σ H1 env m st1 _ (E.ext s1.ext s1.pre) s1.wd (Post.bind (RA := RWs_ c.g m) back_ws h fun xs st2 _ vs H2 s2 r2 h => ?_)
  exact h.ok s2.wd (show RelWs _ _ _ _ _ _ from .cons (r1.w0.ext s2.ext) r2)⟩

/-! ### calls of built-ins -/
def CallD (g : G) (X : Cx) (f : Value) (o : Stor → List W → Option W) : Prop :=
  ∃ r : List V → Hp → VK → Prop, CallR X f r ∧ ∀ (m : Mm) (st : Stor) (H : Hp) (xs : List V) (ws : List W) (w : W) (Q : VK), Wd g m st H → RelWs g m st H xs ws → o st ws = some w → (∀ v H', Step g m st H m st H' → RelW g m st H H' v w → Q v H') → r xs H Q
@[simp] def eB (o : Stor → List W → Option W) (f : DenA) : Den := fun env st => (f env st).bind fun ws st => .ofO (o st ws) st
theorem re_blt {id : String} {x : Str} {es : List Expr} {o : Stor → List W → Option W} {fs : DenA} {p : Pos} (ho : Amb c X → CallD c.g X (.builtin id) o) (hx : x ∈ bltNames) (hv : bootBuiltins x = some (.builtin id)) (ha : RAs c X Wx (a :: es) fs) (hg : Gl X x := by rfl) (hn : x ≠ "__name__" := by decide) (hdb : (x == ("__debug__" : Str)) = false := by decide)
    (he : starEach (a :: es) X.env = (false, eval a X.env) :: starEach es X.env := by rfl) (hpl : (backTo pos (starEach es X.env)).any (·.1) = false := by rfl) : RE c X Wx (.Call (.Name x p) (a :: es) [] pos) (eB o fs) := ⟨fun am tk => by
  obtain ⟨r, h1, h2⟩ := ho am
  obtain ⟨t, pa, va⟩ := ha.ex am tk
  refine ⟨_, pe_callB h1 hg (am.blt x hx) hv pa hn hdb he hpl, fun σ H env m st Q E w h => va σ H env m st _ E w (Post.bind (RA := RWs_ c.g m) back_w h fun ws st1 _ vs H1 s1 r1 h => ?_)⟩
  obtain ⟨w2, e, h⟩ := h.ofO
  exact h2 m st1 H1 vs ws w2 Q s1.wd r1 e fun v H' s r => h.okS s r⟩
theorem re_blT {T : String} {x : Str} {es : List Expr} {o : Stor → List W → Option W} {fs : DenA} {p : Pos} (ho : Amb c X → CallD c.g X (.type T) o) (hx : x ∈ bltNames) (hv : bootBuiltins x = some (.type T)) (ha : RAs c X Wx (a :: es) fs) (hg : Gl X x := by rfl) (hn : x ≠ "__name__" := by decide) (hdb : (x == ("__debug__" : Str)) = false := by decide)
    (he : starEach (a :: es) X.env = (false, eval a X.env) :: starEach es X.env := by rfl) (hpl : (backTo pos (starEach es X.env)).any (·.1) = false := by rfl) : RE c X Wx (.Call (.Name x p) (a :: es) [] pos) (eB o fs) := ⟨fun am tk => by
  obtain ⟨r, h1, h2⟩ := ho am
  obtain ⟨t, pa, va⟩ := ha.ex am tk
  refine ⟨_, pe_callTy h1 hg (am.blt x hx) hv pa hn hdb he hpl, fun σ H env m st Q E w h => va σ H env m st _ E w (Post.bind (RA := RWs_ c.g m) back_w h fun ws st1 _ vs H1 s1 r1 h => ?_)⟩
  obtain ⟨w2, e, h⟩ := h.ofO
  exact h2 m st1 H1 vs ws w2 Q s1.wd r1 e fun v H' s r => h.okS s r⟩
end
section
variable {g : G} {X : Cx}
theorem RelWs.one {m st H xs w} (r : RelWs g m st H xs [w]) : ∃ x, ∃ _ : True, xs = [x] ∧ RelW0 g m st H x w := by
  cases r with
  | cons r1 r2 => cases r2; exact ⟨_, trivial, rfl, r1⟩
theorem RelWs.two {m st H xs w w'} (r : RelWs g m st H xs [w, w']) : ∃ x y, ∃ _ : True, ∃ _ : True, xs = [x, y] ∧ RelW0 g m st H x w ∧ RelW0 g m st H y w' := by
  cases r with
  | cons r1 r2 => cases r2 with
    | cons r2 r3 => cases r3; exact ⟨_, _, trivial, trivial, rfl, r1, r2⟩
/-- the items of a list or tuple -/
def W.items (st : Stor) (w : W) : Option (List D) := match w with
  | .d (.tup l) => some l
  | w => w.asL st
theorem RelW0.items {m st H v} (wd : Wd g m st H) {w : W} {l : List D} (r : RelW0 g m st H v w) (e : w.items st = some l) : ∃ a xs, v = .ref a ∧ (SqL g.K H a xs ∨ SqT g.K H a xs) ∧ RelL g m st H xs l := by
  unfold W.items at e
  split at e
  · cases e
    obtain ⟨a, xs, h1, h2, h3⟩ := r.asT rfl
    exact ⟨a, xs, h1, .inr h2, h3⟩
  · obtain ⟨a, xs, h1, h2, h3⟩ := r.asL wd e
    exact ⟨a, xs, h1, .inl (SqL.of h2), h3⟩
def dLen (st : Stor) : List W → Option W
  | [.d (.str s)] => if decide (s.length ≤ 16777216) then some (.d (.int s.length)) else none
  | [w] => (w.items st).map fun l => .d (.int l.length)
  | _ => none
theorem cd_len (hK : X.K = g.K) : CallD g X (.builtin "len") dLen := ⟨_, call_len, fun m st H xs ws w Q wd r e q => by
  unfold dLen at e
  split at e
  · split at e
    · rename_i s z
      cases e
      obtain ⟨x, H0, rfl, r1⟩ := r.one
      cases r1
      exact ⟨_, s.length, rfl, ⟨by rw [sizeLine_eq]; exact of_decide_eq_true z, rfl⟩, q _ _ (.refl wd) (show Rel _ _ _ _ _ _ from .int _)⟩
    · cases e
  · rename_i w1 _
    cases z : w1.items st with
    | none => rw [z] at e; cases e
    | some l =>
      rw [z] at e
      cases e
      obtain ⟨x, H0, rfl, r1⟩ := r.one
      obtain ⟨a, ys, rfl, h2, h3⟩ := r1.items wd z
      refine ⟨_, l.length, rfl, ?_, q _ _ (.refl wd) (show Rel _ _ _ _ _ _ from .int _)⟩
      rw [← hK] at h2
      exact h2.elim (fun h => .inl ⟨ys, h, h3.length.symm⟩) (fun h => .inr ⟨ys, h, h3.length.symm⟩)
  · cases e⟩
def dAbs (_ : Stor) : List W → Option W
  | [.d (.int i)] => some (.d (.int (if i < 0 then -i else i)))
  | _ => none
theorem cd_abs : CallD g X (.builtin "abs") dAbs := ⟨_, call_abs, fun m st H xs ws w Q wd r e q => by
  unfold dAbs at e
  split at e
  · cases e
    obtain ⟨x, H0, rfl, r1⟩ := r.one
    cases r1
    exact ⟨_, rfl, q _ _ (.refl wd) (show Rel _ _ _ _ _ _ from .int _)⟩
  · cases e⟩
def dInt (_ : Stor) : List W → Option W
  | [.d (.int i)] => some (.d (.int i))
  | [.d (.bl b)] => some (.d (.int (if b then 1 else 0)))
  | _ => none
theorem cd_int : CallD g X (.type "int") dInt := ⟨_, call_int1, fun m st H xs ws w Q wd r e q => by
  unfold dInt at e
  split at e
  · cases e
    obtain ⟨x, H0, rfl, r1⟩ := r.one
    cases r1
    exact .inl ⟨_, rfl, q _ _ (.refl wd) (show Rel _ _ _ _ _ _ from .int _)⟩
  · cases e
    obtain ⟨x, H0, rfl, r1⟩ := r.one
    cases r1
    exact .inr ⟨_, rfl, q _ _ (.refl wd) (show Rel _ _ _ _ _ _ from .int _)⟩
  · cases e⟩
/-- max(a, b), max(list of ints) -/
def maxI : List Int → Option Int
  | [] => none
  | i :: r => some (r.foldl max i)
def minI : List Int → Option Int
  | [] => none
  | i :: r => some (r.foldl min i)
theorem foldl_max_ge (r : List Int) : ∀ i, i ≤ r.foldl max i ∧ (∀ y ∈ r, y ≤ r.foldl max i) ∧ (r.foldl max i = i ∨ r.foldl max i ∈ r) := by
  induction r with
  | nil => exact fun i => ⟨Int.le_refl _, fun y h => (nomatch h), .inl rfl⟩
  | cons x r ih =>
    intro i
    obtain ⟨h1, h2, h3⟩ := ih (max i x)
    rw [List.foldl_cons]
    refine ⟨Int.le_trans (Int.le_max_left i x) h1, fun y hy => ?_, ?_⟩
    · rcases List.mem_cons.mp hy with e | hy
      · rw [e]; exact Int.le_trans (Int.le_max_right i x) h1
      · exact h2 y hy
    · rcases h3 with e | e
      · rw [e]
        rcases Int.le_total i x with k | k
        · rw [Int.max_eq_right k]; exact .inr List.mem_cons_self
        · rw [Int.max_eq_left k]; exact .inl rfl
      · exact .inr (List.mem_cons_of_mem _ e)
theorem foldl_min_le (r : List Int) : ∀ i, r.foldl min i ≤ i ∧ (∀ y ∈ r, r.foldl min i ≤ y) ∧ (r.foldl min i = i ∨ r.foldl min i ∈ r) := by
  induction r with
  | nil => exact fun i => ⟨Int.le_refl _, fun y h => (nomatch h), .inl rfl⟩
  | cons x r ih =>
    intro i
    obtain ⟨h1, h2, h3⟩ := ih (min i x)
    rw [List.foldl_cons]
    refine ⟨Int.le_trans h1 (Int.min_le_left i x), fun y hy => ?_, ?_⟩
    · rcases List.mem_cons.mp hy with e | hy
      · rw [e]; exact Int.le_trans h1 (Int.min_le_right i x)
      · exact h2 y hy
    · rcases h3 with e | e
      · rw [e]
        rcases Int.le_total i x with k | k
        · rw [Int.min_eq_left k]; exact .inl rfl
        · rw [Int.min_eq_right k]; exact .inr List.mem_cons_self
      · exact .inr (List.mem_cons_of_mem _ e)
theorem maxI_spec {ns : List Int} {k : Int} (h : maxI ns = some k) : 0 < ns.length ∧ ∀ m, m ∈ ns → (∀ y, y ∈ ns → y ≤ m) → m = k := by
  cases ns with
  | nil => cases h
  | cons i r =>
    cases h
    refine ⟨by simp, fun m hm hle => ?_⟩
    obtain ⟨h1, h2, h3⟩ := foldl_max_ge r i
    have a : r.foldl max i ≤ m := by
      rcases h3 with e | e
      · rw [e]; exact hle _ List.mem_cons_self
      · exact hle _ (List.mem_cons_of_mem _ e)
    have b : m ≤ r.foldl max i := by
      rcases List.mem_cons.mp hm with e | e
      · rw [e]; exact h1
      · exact h2 m e
    omega
theorem minI_spec {ns : List Int} {k : Int} (h : minI ns = some k) : 0 < ns.length ∧ ∀ m, m ∈ ns → (∀ y, y ∈ ns → m ≤ y) → m = k := by
  cases ns with
  | nil => cases h
  | cons i r =>
    cases h
    refine ⟨by simp, fun m hm hle => ?_⟩
    obtain ⟨h1, h2, h3⟩ := foldl_min_le r i
    have a : m ≤ r.foldl min i := by
      rcases h3 with e | e
      · rw [e]; exact hle _ List.mem_cons_self
      · exact hle _ (List.mem_cons_of_mem _ e)
    have b : r.foldl min i ≤ m := by
      rcases List.mem_cons.mp hm with e | e
      · rw [e]; exact h1
      · exact h2 m e
    omega
theorem CallR.or {f : Value} {r r' : List V → Hp → VK → Prop} (h : CallR X f r) (h' : CallR X f r') : CallR X f (fun xs H Q => r xs H Q ∨ r' xs H Q) := by
  intro pins s σ H xs us Q I rx q
  rcases q with q | q
  · exact h pins s σ H xs us Q I rx q
  · exact h' pins s σ H xs us Q I rx q
def dMax (st : Stor) : List W → Option W
  | [.d (.int i), .d (.int j)] => some (.d (.int (if j > i then j else i)))
  | [w] => (w.asL st).bind fun l => (intsOf l).bind fun ns => (maxI ns).map fun k => .d (.int k)
  | _ => none
theorem cd_max (hK : X.K = g.K) (hc : X.calm = true) : CallD g X (.builtin "max") dMax := ⟨_, CallR.or (call_max2 hc) (cr_max hc), fun m st H xs ws w Q wd r e q => by
  unfold dMax at e
  split at e
  · cases e
    obtain ⟨x, y, H0, H0', rfl, r1, r2⟩ := r.two
    cases r1; cases r2
    exact .inl ⟨_, _, rfl, q _ _ (.refl wd) (show Rel _ _ _ _ _ _ from .int _)⟩
  · rename_i w1
    cases z : w1.asL st with
    | none => rw [z] at e; cases e
    | some l =>
      rw [z] at e
      cases z2 : intsOf l with
      | none => simp only [Option.bind_some, z2] at e; cases e
      | some ns =>
        cases z3 : maxI ns with
        | none => simp only [Option.bind_some, z2, z3] at e; cases e
        | some k =>
          simp only [Option.bind_some, z2, z3] at e
          cases e
          obtain ⟨x, H0, rfl, r1⟩ := r.one
          obtain ⟨a, ys, rfl, h2, h3⟩ := r1.asL wd z
          rw [h3.intsOf z2] at h2
          obtain ⟨h0, h4⟩ := maxI_spec z3
          exact .inr ⟨a, ns, rfl, SqL.of h2, h0, fun mm hm hle => by rw [h4 mm hm hle]; exact q _ _ (.refl wd) (show Rel _ _ _ _ _ _ from .int _)⟩
  · cases e⟩
def dMin0 (st : Stor) : List W → Option W
  | [.d (.int i), .d (.int j)] => some (.d (.int (if j < i then j else i)))
  | [w] => (w.asL st).bind fun l => (intsOf l).bind fun ns => (minI ns).map fun k => .d (.int k)
  | _ => none
theorem cd_min0 (hK : X.K = g.K) (hc : X.calm = true) : CallD g X (.builtin "min") dMin0 := ⟨_, CallR.or (call_min2 hc) (cr_min hc), fun m st H xs ws w Q wd r e q => by
  unfold dMin0 at e
  split at e
  · cases e
    obtain ⟨x, y, H0, H0', rfl, r1, r2⟩ := r.two
    cases r1; cases r2
    exact .inl ⟨_, _, rfl, q _ _ (.refl wd) (show Rel _ _ _ _ _ _ from .int _)⟩
  · rename_i w1
    cases z : w1.asL st with
    | none => rw [z] at e; cases e
    | some l =>
      rw [z] at e
      cases z2 : intsOf l with
      | none => simp only [Option.bind_some, z2] at e; cases e
      | some ns =>
        cases z3 : minI ns with
        | none => simp only [Option.bind_some, z2, z3] at e; cases e
        | some k =>
          simp only [Option.bind_some, z2, z3] at e
          cases e
          obtain ⟨x, H0, rfl, r1⟩ := r.one
          obtain ⟨a, ys, rfl, h2, h3⟩ := r1.asL wd z
          rw [h3.intsOf z2] at h2
          obtain ⟨h0, h4⟩ := minI_spec z3
          exact .inr ⟨a, ns, rfl, SqL.of h2, h0, fun mm hm hle => by rw [h4 mm hm hle]; exact q _ _ (.refl wd) (show Rel _ _ _ _ _ _ from .int _)⟩
  · cases e⟩
def dSum (st : Stor) : List W → Option W
  | [w] => (w.asL st).bind fun l => (intsOf l).map fun ns => .d (.int ns.sum)
  | _ => none
theorem cd_sum (hc : X.calm = true) : CallD g X (.builtin "sum") dSum := ⟨_, cr_sum hc, fun m st H xs ws w Q wd r e q => by
  unfold dSum at e
  split at e
  · rename_i w1
    cases z : w1.asL st with
    | none => rw [z] at e; cases e
    | some l =>
      rw [z] at e
      cases z2 : intsOf l with
      | none => simp only [Option.bind_some, z2] at e; cases e
      | some ns =>
        simp only [Option.bind_some, z2] at e
        cases e
        obtain ⟨x, H0, rfl, r1⟩ := r.one
        obtain ⟨a, ys, rfl, h2, h3⟩ := r1.asL wd z
        rw [h3.intsOf z2] at h2
        exact ⟨a, ns, rfl, SqL.of h2, q _ _ (.refl wd) (show Rel _ _ _ _ _ _ from .int _)⟩
  · cases e⟩
def blsOf : List D → Option (List Bool)
  | [] => some []
  | .bl i :: r => (blsOf r).map (i :: ·)
  | _ :: _ => none
theorem RelL.blsOf {m st H} : ∀ {vs : List V} {ds : List D} {ns : List Bool}, RelL g m st H vs ds → DL.blsOf ds = some ns → vs = ns.map V.bl
  | _, _, _, .nil, e => by simp only [DL.blsOf] at e; cases e; rfl
  | _, .bl i :: ds, _, .cons r t, e => by
    simp only [DL.blsOf] at e
    cases z : DL.blsOf ds with
    | none => rw [z] at e; cases e
    | some q =>
      rw [z] at e
      cases e
      cases r
      rw [RelL.blsOf t z]
      rfl
def dAll (st : Stor) : List W → Option W
  | [w] => (w.asL st).bind fun l => (blsOf l).map fun ns => .d (.bl (ns.all id))
  | _ => none
def dAny (st : Stor) : List W → Option W
  | [w] => (w.asL st).bind fun l => (blsOf l).map fun ns => .d (.bl (ns.any id))
  | _ => none
theorem cd_all (hc : X.calm = true) : CallD g X (.builtin "all") dAll := ⟨_, cr_all hc, fun m st H xs ws w Q wd r e q => by
  unfold dAll at e
  split at e
  · rename_i w1
    cases z : w1.asL st with
    | none => rw [z] at e; cases e
    | some l =>
      rw [z] at e
      cases z2 : blsOf l with
      | none => simp only [Option.bind_some, z2] at e; cases e
      | some ns =>
        simp only [Option.bind_some, z2] at e
        cases e
        obtain ⟨x, H0, rfl, r1⟩ := r.one
        obtain ⟨a, ys, rfl, h2, h3⟩ := r1.asL wd z
        rw [h3.blsOf z2] at h2
        exact ⟨a, ns, rfl, SqL.of h2, q _ _ (.refl wd) (show Rel _ _ _ _ _ _ from .bl _)⟩
  · cases e⟩
theorem cd_any (hc : X.calm = true) : CallD g X (.builtin "any") dAny := ⟨_, cr_any hc, fun m st H xs ws w Q wd r e q => by
  unfold dAny at e
  split at e
  · rename_i w1
    cases z : w1.asL st with
    | none => rw [z] at e; cases e
    | some l =>
      rw [z] at e
      cases z2 : blsOf l with
      | none => simp only [Option.bind_some, z2] at e; cases e
      | some ns =>
        simp only [Option.bind_some, z2] at e
        cases e
        obtain ⟨x, H0, rfl, r1⟩ := r.one
        obtain ⟨a, ys, rfl, h2, h3⟩ := r1.asL wd z
        rw [h3.blsOf z2] at h2
        exact ⟨a, ns, rfl, SqL.of h2, q _ _ (.refl wd) (show Rel _ _ _ _ _ _ from .bl _)⟩
  · cases e⟩
/-- list(x), tuple(x) of a list, a tuple, the script -/
def W.itemsS (st : Stor) (w : W) : Option (List D) := match w with
  | .d (.scr ns) => some (ns.map .int)
  | w => w.items st
theorem RelW0.itemsS {m st H v} (wd : Wd g m st H) {w : W} {l : List D} (r : RelW0 g m st H v w) (e : w.itemsS st = some l) : ∃ a xs, v = .ref a ∧ (SqL g.K H a xs ∨ SqT g.K H a xs) ∧ RelL g m st H xs l := by
  unfold W.itemsS at e
  split at e
  · cases e
    cases r with
    | scr h => exact ⟨_, _, rfl, .inl h.sq, RelL.of_ints⟩
  · exact r.items wd e
def dList (st : Stor) : List W → Option W
  | [w] => (w.itemsS st).map fun l => .n l
  | _ => none
theorem cd_list (hK : X.K = g.K) : CallD g X (.type "list") dList := ⟨_, call_list_of, fun m st H xs ws w Q wd r e q => by
  unfold dList at e
  split at e
  · rename_i w1
    cases z : w1.itemsS st with
    | none => rw [z] at e; cases e
    | some l =>
      rw [z] at e
      cases e
      obtain ⟨x, H0, rfl, r1⟩ := r.one
      obtain ⟨a, ys, rfl, h2, h3⟩ := r1.itemsS wd z
      exact ⟨a, ys, rfl, hK ▸ h2, fun p hp => q _ _ (step_new wd hp) (rel_newL wd hp h3)⟩
  · cases e⟩
def dTuple (st : Stor) : List W → Option W
  | [.d (.tup l)] => some (.d (.tup l))
  | [w] => (w.asL st).map fun l => .d (.tup l)
  | _ => none
theorem cd_tuple (hK : X.K = g.K) : CallD g X (.type "tuple") dTuple := ⟨_, call_tuple_of, fun m st H xs ws w Q wd r e q => by
  unfold dTuple at e
  split at e
  · cases e
    obtain ⟨x, H0, rfl, r1⟩ := r.one
    obtain ⟨a, ys, rfl, h2, h3⟩ := r1.asT rfl
    exact ⟨a, ys, rfl, .inr ⟨hK ▸ h2, q _ _ (.refl wd) r1⟩⟩
  · rename_i w1 _
    cases z : w1.asL st with
    | none => rw [z] at e; cases e
    | some l =>
      rw [z] at e
      cases e
      obtain ⟨x, H0, rfl, r1⟩ := r.one
      obtain ⟨a, ys, rfl, h2, h3⟩ := r1.asL wd z
      exact ⟨a, ys, rfl, .inl ⟨SqL.of h2, fun p hp => q _ _ (step_new wd hp) (rel_newT wd hp h3)⟩⟩
  · cases e⟩
end

/-! ### isinstance(x, T), T a built-in type -/
def W.tyN (st : Stor) : W → Option String
  | .d .non => some "NoneType"
  | .d (.bl _) => some "bool"
  | .d (.int _) => some "int"
  | .d (.str _) => some "str"
  | .d (.tup _) => some "tuple"
  | .d (.lst _) => some "list"
  | .n _ => some "list"
  | .r i => match st[i]? with
    | some (.lst _) => some "list"
    | _ => none
  | _ => none
theorem RelW0.tyN {g : G} {m st H v} (wd : Wd g m st H) : ∀ {w : W} {n : String}, RelW0 g m st H v w → w.tyN st = some n → TyX g.K H v (.type n)
  | .d .non, _, r, e => by cases e; cases r; exact .base .non
  | .d (.bl _), _, r, e => by cases e; cases r; exact .base (.bl _)
  | .d (.int _), _, r, e => by cases e; cases r; exact .base (.int _)
  | .d (.str _), _, r, e => by cases e; cases r; exact .base (.str _)
  | .d (.tup _), _, r, e => by
    cases e
    cases r with
    | tup h _ =>
      rcases h with ⟨h, _⟩ | ⟨⟨o, its, n, h1, h2, _⟩, _⟩
      · exact .base (.tup h)
      · exact .kTuple h1 h2
  | .d (.lst _), _, r, e => by
    cases e
    cases r with
    | lst h _ => exact .base (.lst h.1)
  | .n _, _, r, e => by
    cases e
    obtain ⟨a, xs, rfl, h, _⟩ := r
    exact .base (.lst h)
  | .r i, _, r, e => by
    obtain ⟨a, rfl, ha⟩ := r
    simp only [W.tyN] at e
    split at e
    · rename_i l q
      cases e
      obtain ⟨vs, h1, h2⟩ := wd.cells i a _ ha q
      exact .base (.lst h1)
    · cases e
def isT (T : String) (st : Stor) (w : W) : Option Bool := (w.tyN st).bind fun n => kitB n T
section
variable {c : Cf} {X : Cx} {Wx : WX} {a : Expr} {fa : Den} {pos p p' : Pos}
@[simp] def eIs (T : String) (f : Den) : Den := fun env st => (f env st).bind fun w st => (Res.ofO (isT T st w) st).bind fun b st => .ok (.d (.bl b)) st
theorem re_is {T : String} {x : Str} (ha : RE c X Wx a fa) (hx : x ∈ bltNames) (hv : bootBuiltins x = some (.type T)) (hg : Gl X x := by rfl) (hi : Gl X "isinstance" := by rfl) (hn : x ≠ "__name__" := by decide) (hdb : (x == ("__debug__" : Str)) = false := by decide)
    (he : starEach [a, .Name x p'] X.env = (false, eval a X.env) :: starEach [.Name x p'] X.env := by rfl) (he2 : starEach [.Name x p'] X.env = (false, eval (.Name x p') X.env) :: starEach [] X.env := by rfl) (hpl : (backTo pos (starEach [.Name x p'] X.env)).any (·.1) = false := by rfl) :
    RE c X Wx (.Call (.Name "isinstance" p) [a, .Name x p'] [] pos) (eIs T fa) := ⟨fun am tk => by
  obtain ⟨t, pa, va⟩ := ha.ex am tk
  refine ⟨_, pe_callB call_isi hi (am.blt "isinstance" (by decide)) (by decide +kernel) (pa_cons pa (pa_cons (pe_bltn (v := .ty T) hg (am.blt x hx) hv rfl hn hdb) pa_nil he2) he) (by decide) (by decide) he hpl, fun σ H env m st Q E w h =>
    va σ H env m st _ E w (Post.bind (RA := RW_ c.g m) back_w h fun w1 st1 _ v H1 s1 r1 h => ?_)⟩
  cases z : isT T st1 w1 with
  | none => rw [z] at h; exact h.elim
  | some b =>
    rw [z] at h
    unfold isT at z
    cases z2 : w1.tyN st1 with
    | none => rw [z2] at z; cases z
    | some n =>
      rw [z2] at z
      exact ⟨v, .ty T, .type n, .type T, b, rfl, .ty T, am.K ▸ r1.w0.tyN s1.wd z2, kit_ty z, h.ok s1.wd (show Rel _ _ _ _ _ _ from .bl b)⟩⟩

/-! ### calls of defs -/
theorem RelWs.sv {g : G} {m st H} : ∀ {vs ws}, RelWs g m st H vs ws → RelSs g m st H vs (ws.map W.sv)
  | _, _, .nil => .nil
  | _, _, .cons r t => .cons r.sv (RelWs.sv t)
@[simp] def eCall (R : Calls) (i : Nat) (f : DenA) : Den := fun env st => (f env st).bind fun ws st => R i (ws.map W.sv) st
theorem re_call {i : Nat} {x : Str} {es : List Expr} {fs : DenA} (hx : c.P.fn[i]? = some x) (ha : RAs c X Wx (a :: es) fs) (hg : Gl X x := by rfl) (hdb : (x == ("__debug__" : Str)) = false := by decide) (he : starEach (a :: es) X.env = (false, eval a X.env) :: starEach es X.env := by rfl)
    (hpl : (backTo pos (starEach es X.env)).any (·.1) = false := by rfl) (hc : X.calm = true := by rfl) : RE c X Wx (.Call (.Name x p) (a :: es) [] pos) (eCall c.R i fs) := ⟨fun am tk => by
  obtain ⟨h1, h2, fd, ps, h3, h4⟩ := am.fns i x hx
  obtain ⟨t, pa, va⟩ := ha.ex am tk
  refine ⟨_, pe_callS (E := WE Wx) h3 (am.room hc) hg h1 h2 h4 (fun σ => L2N.passAt tk σ) pa hdb he hpl, fun σ H env m st Q E w h => va σ H env m st _ E w (Post.bind (RA := RWs_ c.g m) back_w h fun ws st1 _ vs H1 s1 r1 h => ?_)⟩
  exact ⟨m, st1, ws.map W.sv, s1.wd, r1.sv, h⟩⟩
/-- f() -/
theorem re_call0 {i : Nat} {x : Str} (hx : c.P.fn[i]? = some x) (hg : Gl X x := by rfl) (hdb : (x == ("__debug__" : Str)) = false := by decide) (hc : X.calm = true := by rfl) : RE c X Wx (.Call (.Name x p) [] [] pos) (eCall c.R i gNil) := ⟨fun am tk => by
  obtain ⟨h1, h2, fd, ps, h3, h4⟩ := am.fns i x hx
  refine ⟨fun σ H Q => spOf c.g c.R i [] H Q (WE Wx σ), ⟨fun pins s σ H Q I h => ?_⟩, fun σ H env m st Q E w h => ⟨m, st, [], w, .nil, h⟩⟩
  refine wpAny_Call_Name_kw (ld_glob I hg h1 ?_ hdb)
  exact PySem.W.callWith_K0 I.kIn h2 (run_fnS (us := []) h3 (am.room hc) h4 (L2N.passAt tk σ) I .nil h)⟩
end
end DL

/-! DL: sorted and min of lists of data that are alike, tuples without items too. -/
namespace DL
open PySem PySem.Spec PyProof.Rows L2

/-! ### tuples without items, sorted -/
section
open PySem.SeqAt PySem.W PySem.Calls
variable {prog : Program} {w : World} {A : Around} {E : Value → Shared → Prop} {s : Shared}
theorem call_tup_lt {Q : Value → Shared → Prop} {l b : Addr} {items items2 : Array Value} {e r : Nat → Bool} (hl : s.heap.IsTuple l items) (hb : s.heap.IsTuple b items2)
    (he : ∀ j (h1 : j < items.size) (h2 : j < items2.size), EqAt A.in1 s items[j] items2[j] (e j)) (hr : ∀ j (h1 : j < items.size) (h2 : j < items2.size), e j = false → RcLt A.in1 s items[j] items2[j] (r j))
    (h : Q (.bool (firstLt e r (decide (items.size < items2.size)) (List.range (min items.size items2.size)))) s) : wpAny (model prog w) A (call (.builtin "tuple.__lt__") [.ref l, .ref b]) Q E s := by
  obtain ⟨⟨cls, dd, data, sl⟩, ho, hc, n, hd⟩ := id hl
  obtain ⟨⟨cls2, dd2, data2, sl2⟩, ho2, hc2, n2, hd2⟩ := id hb
  simp only at hc hd hc2 hd2
  subst hc hd hc2 hd2
  exact call_meets PySem.F.slot_tuple_lt ⟨_, ho, rfl⟩ PySem.F.entry_tuple_lt (PySem.F.args_tuple_lt_2 _ _) (tuple_ltAt l b items items2 n n2 dd dd2 sl sl2 e r) ⟨ho, ho2, he, hr, h⟩
theorem oneLt_tup {xs ys : List PyData} {a b : Value} {as bs : List Addr} {Q : Bool → Shared → Prop} (ra : Reads s.heap a (.tuple xs) as) (rb : Reads s.heap b (.tuple ys) bs) (hal : alikeAll xs ys = true)
    (hu : A.units + min (PyData.tuple xs).depth (PyData.tuple ys).depth < cLine) (hq : Q (dataLt (.tuple xs) (.tuple ys)) s) : wpAny (model prog w) A (oneLt' true a b) Q E s := by
  cases ra with
  | @tuple l o vs n _ as₁ h1 h2 h3 h4 =>
    cases rb with
    | @tuple l' o' vs' n' _ bs₁ k1 k2 k3 k4 =>
      have n1 : vs.size = xs.length := by simpa using ReadsAll.length _ _ _ h4
      have n2 : vs'.size = ys.length := by simpa using ReadsAll.length _ _ _ k4
      rw [dataLt_tuple, ← firstLt_toks xs ys hal, ← n1, ← n2] at hq
      rw [oneLt'_eq]
      simp only [if_true]
      refine wpAny_bind (wpAny_cRoomFor (room_here hu) ?_)
      refine wpAny_bind (wpAny_callSpecialIfBound?_slot (T := "tuple") ⟨_, h1, h2⟩ PySem.F.slot_tuple_lt (call_tup_lt (e := pairEq xs ys) (r := fun j => dataLt (xs.getD j .none) (ys.getD j .none)) ⟨_, h1, h2, _, h3⟩ ⟨_, k1, k2, _, k3⟩ (fun j j1 j2 => ?_) (fun j j1 j2 hj => ?_) ?_))
      · have := eqAt_alikeAll xs ys A.in1 s vs.toList vs'.toList _ _ h4 k4 hal (room_in hu) j (by simpa using j1) (by simpa using j2)
        simpa using this
      · have := rcLt_alikeAll xs ys A.in1 s vs.toList vs'.toList _ _ h4 k4 hal (room_in hu) j (by simpa using j1) (by simpa using j2) hj
        simpa using this
      · exact wpAny_truthy_bool hq
def headO : PyData → Bool
  | .tuple (_ :: _) => true
  | _ => false
theorem firsts_tups : ∀ {vs : List Value} {ds : List PyData} {Q : List (Option Value) → Shared → Prop}, EachIs (fun v d => ∃ as, Reads s.heap v d as) vs ds → (∀ d ∈ ds, ∃ xs, d = .tuple xs) →
    (∀ fos : List (Option Value), fos.map (·.isSome) = ds.map headO → Q fos s) → wpAny (model prog w) A (vs.mapM firstOfTuple') Q E s
  | [], [], Q, _, _, h => by
    rw [List.mapM_nil]
    exact wpAny_pure (h [] rfl)
  | v :: vs, d :: ds, Q, .cons ⟨as, r⟩ t, hd, h => by
    obtain ⟨xs, rfl⟩ := hd d List.mem_cons_self
    cases r with
    | @tuple a o its n _ _ ho hc hdat hr =>
      rw [List.mapM_cons]
      refine wpAny_bind ?_
      rw [kas_first_eq]
      refine wpAny_bind (Looks.here (show Looks _ s.heap (typeOf (.ref a)) o.cls from (Looks.ld ho).andThen .now) ?_)
      rw [hc, if_neg (by first | decide | simp)]
      refine wpAny_bind (listItems_at ho hdat (wpAny_pure ?_))
      refine wpAny_bind (firsts_tups t (fun d m => hd d (List.mem_cons_of_mem _ m)) fun fos e => wpAny_pure (h _ ?_))
      rw [List.map_cons, List.map_cons, e]
      congr 1
      cases q : its.toList with
      | nil =>
        rw [q] at hr
        cases hr
        have : its = #[] := by simpa using q
        subst this
        rfl
      | cons f fr =>
        rw [q] at hr
        cases hr with
        | cons r1 r2 =>
          have hf : its[0]? = some f := by rw [← Array.getElem?_toList, q]; rfl
          rw [hf]
          rfl
theorem SortsAt.tups {vs : List Value} {ds : List PyData} (e : EachIs (fun v d => ∃ as, Reads s.heap v d as) vs ds) (hal : AllAlike ds) (ht : ∀ d ∈ ds, ∃ xs, d = .tuple xs) (he : .tuple [] ∈ ds) (hu : ∀ d, d ∈ ds → A.units + d.depth < cLine) : SortsAt prog w A s (dataKind s.heap ds) vs := by
  have room : ∀ {d d' : PyData}, d ∈ ds → A.units + min d.depth d'.depth < cLine := fun {d d'} hd => Nat.lt_of_le_of_lt (Nat.add_le_add_left (Nat.min_le_left _ _) _) (hu d hd)
  refine ⟨fun v hv => ?_, ?_⟩
  · obtain ⟨d, hd, as, r⟩ := e.left v hv
    exact ⟨_, dataKind_some hal hd r⟩
  · have key : ∀ (kd : SortKind), (kd = general' ∨ kd = oneType') → H.LtAt prog w A s (dataKind s.heap ds) kd := by
      intro kd hk E x y a b Q ha hb hq
      obtain ⟨d, as, hd, ra, rfl⟩ := dataKind_inv ha
      obtain ⟨d', as', hd', rb, rfl⟩ := dataKind_inv hb
      have hdd := hal d hd d' hd'
      obtain ⟨xs, rfl⟩ := ht d hd
      obtain ⟨ys, rfl⟩ := ht d' hd'
      rcases hk with rfl | rfl
      · show wpAny _ _ (oneLt' false x y) _ _ _
        exact oneLt_alike (fun z => nomatch z) ra rb hdd (by intro z; cases z) (room hd) hq
      · rw [keyLt'_oneType]
        exact oneLt_tup ra rb (by simpa [alike] using hdd) (room hd) hq
    match ds, vs, e, he with
    | d₀ :: ds₀, v₀ :: vs₀, e, he =>
      refine ⟨if headO d₀ then general' else oneType', key _ (by split; exact .inl rfl; exact .inr rfl), fun h2 E Q hq => ?_⟩
      rw [kat_kind_eq, List.mapM_toArray, map_eq_pure_bind]
      refine wpAny_bind (wpAny_bind (firsts_tups e ht fun fos hf => wpAny_pure ?_))
      have hall : (fos.toArray.all fun x => x.isSome) = false := by
        cases z : (fos.toArray.all fun x => x.isSome) with
        | false => rfl
        | true =>
          rw [List.all_toArray] at z
          have z2 : (fos.map (·.isSome)).all id = true := by rw [List.all_map]; simpa using z
          rw [hf, List.all_map, List.all_eq_true] at z2
          have := z2 _ he
          simp [headO] at this
      rw [hall, if_neg (by simp)]
      obtain ⟨f₀, fos', rfl⟩ : ∃ f₀ fos', fos = f₀ :: fos' := by
        cases fos with
        | nil => simp at hf
        | cons f r => exact ⟨_, _, rfl⟩
      have h0 : f₀.isSome = headO d₀ := by
        simp only [List.map_cons, List.cons.injEq] at hf
        exact hf.1
      have h00 : ((f₀ :: fos').toArray[0]?.bind id) = f₀ := by simp
      rw [h00, h0]
      cases z : headO d₀ with
      | true =>
        rw [z] at hq
        rw [if_pos rfl]
        exact wpAny_pure hq
      | false =>
        rw [z] at hq
        rw [if_neg (by simp)]
        rw [oneTypeOnly'_eq, List.mapM_toArray, map_eq_pure_bind]
        refine wpAny_bind (wpAny_bind (wpAny_bind (kas_mapM (r := Value.type "tuple") _ (fun v hv Q' hq => ?_) (wpAny_pure ?_))))
        · obtain ⟨d, hd, as, r⟩ := e.left v hv
          obtain ⟨xs, rfl⟩ := ht d hd
          exact (looks_reads r).here hq
        · have hall2 : ((List.map (fun _ => Value.type "tuple") (v₀ :: vs₀)).toArray.all fun x => x == Value.type "tuple") = true := by
            simp only [List.all_toArray, List.all_map, List.all_eq_true]
            intro _ _
            exact beq_self_eq_true _
          have h1 : (List.map (fun _ => Value.type "tuple") (v₀ :: vs₀)).toArray[0]? = some (Value.type "tuple") := by simp
          rw [h1]
          simp only [hall2, if_true]
          exact wpAny_pure (wpAny_pure hq)
/-! ### sorted(xs), xs a list or a tuple -/
theorem collect_sq {l : Addr} {T : String} {o : Obj} {its : Array Value} {n : Nat} {Q : List Value → Shared → Prop} (hT : T = "list" ∨ T = "tuple") (ho : s.heap.get? l = some o) (hc : o.cls = .type T) (hd : o.data = .seq its n) (hL : its.size ≤ sizeLine)
    (h : Q its.toList { s with heap := (s.heap.push (seqObj "list" #[] 0)).update s.heap.objs.size (Obj.mapSeq (· ++ its)) }) : wpAny (model prog w) A (collect (.ref l)) Q E s := by
  unfold collect
  refine wpAny_bind (wpAny_runValue (codeAny_builtin entry_proto_collect' (show wpAny _ _ (do again (.builtin "list.__iadd__" ⟨[← newList [], .ref l], []⟩)) _ _ s from wpAny_bind (PySem.wpAny_newList (wpAny_pure ⟨Code.quiet_builtin _ (by decide +kernel), codeAny_builtin entry_list_iadd' ?_⟩)))))
  show wpAny _ _ (Builtin.List.listExtendWith (.ref s.heap.objs.size) (.ref l) (.ref s.heap.objs.size)) _ _ { s with heap := s.heap.push (seqObj "list" #[] 0) }
  unfold Builtin.List.listExtendWith
  have h1 : (s.heap.push (seqObj "list" #[] 0)).get? l = some o := Heap.get?_push_of_some _ ho
  refine wpAny_bind (wpAny_typeOf (T := T) ⟨o, h1, hc⟩ ?_)
  rw [if_pos (by rcases hT with rfl | rfl; (rw [show (Value.type "list" == Value.type "list") = true from rfl]; simp); (rw [show (Value.type "tuple" == Value.type "tuple") = true from rfl]; simp))]
  refine wpAny_bind (listItems_at h1 hd (wpAny_bind (listItems_at (xs := #[]) (n := 0) (Heap.get?_push_size _ rfl) rfl ?_)))
  rw [if_neg (by simp)]
  refine wpAny_bind (listUpdate_at (xs := #[]) (n := 0) (Heap.get?_push_size _ rfl) rfl (wpAny_pure ?_) (Nat.zero_le _) (by show (#[] ++ its).size ≤ sizeLine + 1; simp only [Array.size_append, List.size_toArray, List.length_nil]; omega))
  refine wpAny_bind (wpAny_load (get?_update_seq (Heap.get?_push_size _ rfl) _) ?_)
  have e : ((#[] : Array Value) ++ its).toList = its.toList := by simp
  show wpAny _ _ (pure ((#[] : Array Value) ++ its).toList) Q E _
  rw [e]
  exact wpAny_pure h
theorem sorted_any {l : Addr} {T : String} {o : Obj} {its : Array Value} {n : Nat} {κ : Heap → PyProof.Rows.KeyKind} {Q : Value → Shared → Prop} (hT : T = "list" ∨ T = "tuple") (ho : s.heap.get? l = some o) (hc : o.cls = .type T) (hd : o.data = .seq its n) (hL : its.size ≤ sizeLine)
    (S : ∀ h', (∀ b o, s.heap.get? b = some o → h'.get? b = some o) → SortsAt prog w A.in1.in1 { s with heap := h' } (κ h') its.toList)
    (h : ∀ h' h2 d m, (∀ b o, s.heap.get? b = some o → h'.get? b = some o) → (∀ b o, s.heap.get? b = some o → h2.get? b = some o) → s.heap.objs.size ≤ d → h2.get? d = some (seqObj "list" (sortVals (κ h') false its.toList its.toList).toArray m) → Q (.ref d) { s with heap := h2 }) :
    wpAny (model prog w) A (call (.builtin "sorted") [.ref l]) Q E s := by
  have hL' : its.toList.length ≤ sizeLine := by simpa using hL
  refine Calls.call_function_entry kind_sorted plain_sorted entry_sorted (args_sorted1 _) ?_
  unfold Builtin.«sorted»
  refine wpAny_bind (m := checkCount "sorted" 1 1 _) (wpAny_pure (wpAny_bind (collect_sq hT ho hc hd hL (wpAny_bind (PySem.wpAny_newList ?_)))))
  have e1 : its = its.toList.toArray := by simp
  show wpAny _ _ _ _ _ { s with heap := ((s.heap.push (seqObj "list" #[] 0)).update s.heap.objs.size (Obj.mapSeq (· ++ its))).push (seqObj "list" its.toList.toArray 0) }
  have e2 : ((s.heap.push (seqObj "list" #[] 0)).update s.heap.objs.size (Obj.mapSeq (· ++ its))).push (seqObj "list" its.toList.toArray 0) = copyHeap s.heap its.toList := by
    unfold copyHeap
    rw [← e1]
  have e3 : ((s.heap.push (seqObj "list" #[] 0)).update s.heap.objs.size (Obj.mapSeq (· ++ its))).objs.size = s.heap.objs.size + 1 := by rw [Heap.size_update, size_push']
  rw [e2]
  show wpAny _ _ (holding [.ref ((s.heap.push (seqObj "list" #[] 0)).update s.heap.objs.size (Obj.mapSeq (· ++ its))).objs.size] (call (.builtin "list.sort") [.ref ((s.heap.push (seqObj "list" #[] 0)).update s.heap.objs.size (Obj.mapSeq (· ++ its))).objs.size] []) >>= fun _ => ret (.ref ((s.heap.push (seqObj "list" #[] 0)).update s.heap.objs.size (Obj.mapSeq (· ++ its))).objs.size)) _ _ _
  rw [e3]
  obtain ⟨m, hm⟩ := sortedAll_at s.heap its.toList (sortVals (κ (sortingHeap (copyHeap s.heap its.toList) (s.heap.objs.size + 1) its.toList)) false its.toList its.toList).toArray
  refine wpAny_bind (wpAny_holding (wpAny_call_entry slot_list_sort ⟨_, copyHeap_at s.heap its.toList, rfl⟩ entry_list_sort (list_sort_vals (s := { s with heap := copyHeap s.heap its.toList }) (copyHeap_at s.heap its.toList) (S _ fun b o e => sorting_copy_old e) hL' ⟨_, rfl, ?_⟩) (args_list_sort _)))
  exact wpAny_pure ⟨_, rfl, h _ _ _ _ (fun b o e => sorting_copy_old e) (fun b o e => sortedAll_old e) (Nat.le_succ _) hm⟩
end

/-! ### the rules of the layer -/
open PySem.W PySem.SeqAt
def notTN : PyData → Bool
  | .none => false
  | .tuple _ => false
  | _ => true
def isTupP : PyData → Bool
  | .tuple _ => true
  | _ => false
/-- data that sorted(..) is told of -/
structure OkSort (ps : List PyData) : Prop where
  alike : AllAlike ps
  kind : (∀ p ∈ ps, ∃ xs, p = .tuple xs) ∨ ∀ p ∈ ps, p ≠ .none ∧ ∀ xs, p ≠ .tuple xs
  depth : ∀ p ∈ ps, p.depth ≤ 50
theorem OkSort.at' {prog : Program} {w : World} {A : Around} {s : Shared} {vs : List Value} {ps : List PyData} (ok : OkSort ps) (hu : A.units + 50 < cLine) (e : EachIs (fun v d => ∃ as, Reads s.heap v d as) vs ps) : SortsAt prog w A s (dataKind s.heap ps) vs := by
  have hu' : ∀ d, d ∈ ps → A.units + d.depth < cLine := fun d hd => by have := ok.depth d hd; omega
  rcases ok.kind with ht | hn
  · by_cases he : PyData.tuple [] ∈ ps
    · exact SortsAt.tups e ok.alike ht he hu'
    · refine SortsAt.data e ok.alike (.inl fun d hd => ?_) hu'
      obtain ⟨xs, rfl⟩ := ht d hd
      cases xs with
      | nil => exact absurd hd he
      | cons x r => exact ⟨x, r, rfl⟩
  · exact SortsAt.data e ok.alike (.inr hn) hu'
def rSortD (K : PySem.W.Frag) : List V → Hp → VK → Prop := fun vs H Q => ∃ (β : Type) (a : Addr) (bs : List β) (val : β → V) (en : β → PyData), vs = [V.ref a] ∧ (SqL K H a (bs.map val) ∨ SqT K H a (bs.map val)) ∧ (∀ b ∈ bs, Dp K H (val b) (en b)) ∧ OkSort (bs.map en) ∧
  ∀ p, H p = none → Q (.ref p) (upd H p (.lst ((bs.mergeSort (dataLe false en)).map val)))
theorem each_vals {β : Type} {val : β → V} : ∀ {bs : List β} {us : List Value}, Vals (bs.map val) us → EachIs (fun v b => RelV (val b) v) us bs
  | [], _, h => by cases h; exact .nil
  | b :: bs, _, h => by
    cases h with
    | cons r t => exact .cons r (each_vals t)
theorem vals_each {β : Type} {val : β → V} : ∀ {bs : List β} {us : List Value}, EachIs (fun v b => RelV (val b) v) us bs → Vals (bs.map val) us
  | [], _, h => by cases h; exact .nil
  | b :: bs, _, h => by
    cases h with
    | cons r t => exact .cons r (vals_each t)
section
variable {X : Cx}
theorem cr_sortD (hu : X.A.units + 64 < cLine) : CallR X (.builtin "sorted") (rSortD X.K) := by
  intro pins s σ H vs us Q I r h
  obtain ⟨β, a, bs, val, en, rfl, hs, hd, ok, q⟩ := h
  rw [Vals.ref1 r]
  obtain ⟨its, T, o, n, rv, hT, ho, hc, hdat, hz⟩ : ∃ (its : List Value) (T : String) (o : Obj) (n : Nat), Vals (bs.map val) its ∧ (T = "list" ∨ T = "tuple") ∧ s.heap.get? a = some o ∧ o.cls = .type T ∧ o.data = .seq its.toArray n ∧ (bs.map val).length ≤ sizeLine := by
    rcases hs with hs | hs
    · obtain ⟨its, rv, hl, hz⟩ := I.list hs
      obtain ⟨o, ho, hc, n, hdat⟩ := hl.isList
      exact ⟨its, "list", o, n, rv, .inl rfl, ho, hc, hdat, hz⟩
    · obtain ⟨its, rv, ⟨o, ho, hc, n, hdat⟩, hz⟩ := I.tuple hs
      exact ⟨its, "tuple", o, n, rv, .inr rfl, ho, hc, hdat, hz⟩
  have e0 := each_vals rv
  have hlen : its.length = bs.length := e0.length
  have er : ∀ h', (∀ b o, s.heap.get? b = some o → h'.get? b = some o) → EachIs (fun v b => ∃ as, Reads h' v (en b) as) its bs := fun h' k => (each_mem e0).mono fun v b ⟨rb, hb⟩ => by
    obtain ⟨as, r⟩ := Dp.reads I (en b) (val b) v (hd b hb) rb
    exact ⟨as, PyProof.Rows.Reads.keeps k r⟩
  refine sorted_any (κ := fun h' => dataKind h' (bs.map en)) hT ho hc hdat (by rw [List.size_toArray, hlen]; simpa using hz) (fun h' k => ?_) fun h' h2 d m k k2 hle hm => ?_
  · exact OkSort.at' (A := X.A.in1.in1) (s := { s with heap := h' }) ok (by show X.A.units + 2 + 50 < cLine; omega) (each_map (R := fun v d => ∃ as, Reads h' v d as) en (er h' k))
  · have ev := vals_each (sortVals_data (R := fun v b => RelV (val b) v) false e0 (er h' k) ok.alike)
    have hl2 : ((bs.mergeSort (dataLe false en)).map val).length ≤ sizeLine := by
      rw [List.length_map, List.length_mergeSort]
      simpa using hz
    refine ⟨.ref d, upd H d (.lst ((bs.mergeSort (dataLe false en)).map val)), I.laid (t' := s.toks) k2 hle ⟨hl2, _, m, ev, hm⟩, rfl, q d (I.hok.fresh hle)⟩
/-- min(xs), xs a list of data -/
def rMinD (K : PySem.W.Frag) : List V → Hp → VK → Prop := fun vs H Q => ∃ (a : Addr) (xs : List V) (p : PyData) (ps : List PyData), vs = [V.ref a] ∧ SqL K H a xs ∧ DpAll K H xs (p :: ps) ∧ AlikeAll (p :: ps) ∧ PyData.depthAll (p :: ps) ≤ 50 ∧
  ∀ (i : Nat) (x : V), xs[i]? = some x → (p :: ps)[i]? = some (minD p ps) → Q x H
theorem readsAll_get {h : Heap} : ∀ {us : List Value} {ps : List PyData} {as : List Addr} {i : Nat} {u : Value}, ReadsAll h us ps as → us[i]? = some u → ∃ p bs, ps[i]? = some p ∧ Reads h u p bs
  | _, _, _, _, _, .nil, e => by simp at e
  | _, _, _, 0, _, .cons r1 r2, e => by
    simp at e
    subst e
    exact ⟨_, _, rfl, r1⟩
  | _, _, _, i + 1, _, .cons r1 r2, e => by
    obtain ⟨p, bs, h1, h2⟩ := readsAll_get (i := i) r2 (by simpa using e)
    exact ⟨p, bs, by simpa using h1, h2⟩
theorem minD_mem : ∀ (ps : List PyData) (p : PyData), minD p ps ∈ p :: ps
  | [], p => List.mem_cons_self
  | x :: ps, p => by
    show minD (if dataLt x p then x else p) ps ∈ _
    have := minD_mem ps (if dataLt x p then x else p)
    rcases List.mem_cons.mp this with e | e
    · rw [e]
      split
      · simp
      · simp
    · simp [e]
theorem vals_get : ∀ {xs : List V} {us : List Value} {i : Nat} {u : Value}, Vals xs us → us[i]? = some u → ∃ x, xs[i]? = some x ∧ RelV x u
  | _, _, _, _, .nil, e => by simp at e
  | _, _, 0, _, .cons r t, e => by
    simp at e
    subst e
    exact ⟨_, rfl, r⟩
  | _, _, i + 1, _, .cons r t, e => by
    obtain ⟨x, h1, h2⟩ := vals_get (i := i) t (by simpa using e)
    exact ⟨x, by simpa using h1, h2⟩
theorem cr_minD (hc : X.calm = true) (hu : X.A.units + 64 < cLine) : CallR X (.builtin "min") (rMinD X.K) := by
  intro pins s σ H vs us Q I r h
  obtain ⟨a, xs, p, ps, rfl, hs, hd, al, dep, q⟩ := h
  rw [Vals.ref1 r]
  obtain ⟨its, rv, hl, hz⟩ := I.list hs
  obtain ⟨as, hr⟩ := Dp.readsAll I _ _ its hd rv
  refine min_list_data (I.ok.hd hc) hl.isList (by simpa using hr) al (by omega) fun i v h' tk bs hv rd k => ?_
  have hv' : its[i]? = some v := by simpa using hv
  obtain ⟨x, hx, rx⟩ := vals_get rv hv'
  obtain ⟨p', bs', hp, rp⟩ := readsAll_get hr hv'
  have e : p' = minD p ps := alike_unique _ _ _ _ _ (al.1 _ (List.mem_of_getElem? hp) _ (minD_mem ps p)) (PyProof.Rows.Reads.keeps k rp) rd
  rw [e] at hp
  exact ⟨x, H, I.kept (t' := tk) k, rx, q i x hx hp⟩
end

/-! ### by data -/
def enc (d : D) : PyData := d.py.getD .none
theorem enc_of {d : D} {p : PyData} (h : d.py = some p) : enc d = p := by simp [enc, h]
mutual
theorem py_inj : ∀ {d e : D} {p : PyData}, d.py = some p → e.py = some p → d = e
  | .non, e, p, h1, h2 => by
    simp only [D.py] at h1
    cases h1
    cases e <;> simp only [D.py] at h2 <;> first | rfl | cases h2 | (cases z : D.pyL _ <;> rw [z] at h2 <;> cases h2)
  | .bl b, e, p, h1, h2 => by
    simp only [D.py] at h1
    cases h1
    cases e <;> simp only [D.py] at h2 <;> first | (cases h2; rfl) | cases h2 | (cases z : D.pyL _ <;> rw [z] at h2 <;> cases h2)
  | .int b, e, p, h1, h2 => by
    simp only [D.py] at h1
    cases h1
    cases e <;> simp only [D.py] at h2 <;> first | (cases h2; rfl) | cases h2 | (cases z : D.pyL _ <;> rw [z] at h2 <;> cases h2)
  | .str b, e, p, h1, h2 => by
    simp only [D.py] at h1
    cases h1
    cases e <;> simp only [D.py] at h2 <;> first | (cases h2; rfl) | cases h2 | (cases z : D.pyL _ <;> rw [z] at h2 <;> cases h2)
  | .tup l, e, p, h1, h2 => by
    simp only [D.py] at h1
    cases z1 : D.pyL l with
    | none => rw [z1] at h1; cases h1
    | some ps =>
      rw [z1] at h1
      cases h1
      cases e with
      | tup l2 =>
        simp only [D.py] at h2
        cases z2 : D.pyL l2 with
        | none => rw [z2] at h2; cases h2
        | some qs =>
          rw [z2] at h2
          cases h2
          rw [pyL_inj z1 z2]
      | lst l2 =>
        simp only [D.py] at h2
        cases z2 : D.pyL l2 <;> rw [z2] at h2 <;> cases h2
      | _ => simp only [D.py] at h2; cases h2
  | .lst l, e, p, h1, h2 => by
    simp only [D.py] at h1
    cases z1 : D.pyL l with
    | none => rw [z1] at h1; cases h1
    | some ps =>
      rw [z1] at h1
      cases h1
      cases e with
      | lst l2 =>
        simp only [D.py] at h2
        cases z2 : D.pyL l2 with
        | none => rw [z2] at h2; cases h2
        | some qs =>
          rw [z2] at h2
          cases h2
          rw [pyL_inj z1 z2]
      | tup l2 =>
        simp only [D.py] at h2
        cases z2 : D.pyL l2 <;> rw [z2] at h2 <;> cases h2
      | _ => simp only [D.py] at h2; cases h2
  | .fn i, e, p, h1, h2 => by simp only [D.py] at h1; cases h1
  | .scr i, e, p, h1, h2 => by simp only [D.py] at h1; cases h1
theorem pyL_inj : ∀ {d e : List D} {p : List PyData}, D.pyL d = some p → D.pyL e = some p → d = e
  | [], e, p, h1, h2 => by
    simp only [D.pyL] at h1
    cases h1
    cases e with
    | nil => rfl
    | cons x l =>
      simp only [D.pyL] at h2
      cases z : x.py with
      | none => rw [z] at h2; cases h2
      | some q =>
        rw [z] at h2
        cases z2 : D.pyL l <;> rw [z2] at h2 <;> cases h2
  | y :: ys, e, p, h1, h2 => by
    simp only [D.pyL] at h1
    cases z1 : y.py with
    | none => rw [z1] at h1; cases h1
    | some q1 =>
      rw [z1] at h1
      cases w1 : D.pyL ys with
      | none => rw [w1] at h1; cases h1
      | some r1 =>
        rw [w1] at h1
        cases h1
        cases e with
        | nil => simp only [D.pyL] at h2; cases h2
        | cons x l =>
          simp only [D.pyL] at h2
          cases z2 : x.py with
          | none => rw [z2] at h2; cases h2
          | some q2 =>
            rw [z2] at h2
            cases w2 : D.pyL l with
            | none => rw [w2] at h2; cases h2
            | some r2 =>
              rw [w2] at h2
              cases h2
              rw [py_inj z1 z2, pyL_inj w1 w2]
end
/-! the order, by data alone -/
mutual
def D.lt : D → D → Bool
  | .int a, .int b => decide (a < b)
  | .bl a, .bl b => !a && b
  | .str a, .str b => decide (a.cps.toList < b.cps.toList)
  | .tup a, .tup b => D.ltL a b
  | .lst a, .lst b => D.ltL a b
  | _, _ => false
def D.ltL : List D → List D → Bool
  | [], [] => false
  | [], _ :: _ => true
  | _ :: _, [] => false
  | x :: xs, y :: ys => if D.eqv x y then D.ltL xs ys else D.lt x y
end
mutual
def D.alk : D → D → Bool
  | .non, .non => true
  | .int _, .int _ => true
  | .bl _, .bl _ => true
  | .str _, .str _ => true
  | .tup a, .tup b => D.alkL a b
  | .lst a, .lst b => D.alkL a b
  | _, _ => false
def D.alkL : List D → List D → Bool
  | x :: xs, y :: ys => D.alk x y && D.alkL xs ys
  | [], _ => true
  | _ :: _, [] => true
end
mutual
theorem alk_py : ∀ {x y : D} {p q : PyData}, x.py = some p → y.py = some q → D.alk x y = true → PySem.W.alike p q = true
  | .non, .non, p, q, h1, h2, _ => by simp only [D.py] at h1 h2; cases h1; cases h2; simp [PySem.W.alike]
  | .bl _, .bl _, p, q, h1, h2, _ => by simp only [D.py] at h1 h2; cases h1; cases h2; simp [PySem.W.alike]
  | .int _, .int _, p, q, h1, h2, _ => by simp only [D.py] at h1 h2; cases h1; cases h2; simp [PySem.W.alike]
  | .str _, .str _, p, q, h1, h2, _ => by simp only [D.py] at h1 h2; cases h1; cases h2; simp [PySem.W.alike]
  | .tup a, .tup b, p, q, h1, h2, h => by
    simp only [D.py, Option.map_eq_some_iff] at h1 h2
    obtain ⟨ps, a1, rfl⟩ := h1
    obtain ⟨qs, a2, rfl⟩ := h2
    simp only [PySem.W.alike]
    exact alkL_py a1 a2 (by simpa [D.alk] using h)
  | .lst a, .lst b, p, q, h1, h2, h => by
    simp only [D.py, Option.map_eq_some_iff] at h1 h2
    obtain ⟨ps, a1, rfl⟩ := h1
    obtain ⟨qs, a2, rfl⟩ := h2
    simp only [PySem.W.alike]
    exact alkL_py a1 a2 (by simpa [D.alk] using h)
theorem alkL_py : ∀ {x y : List D} {p q : List PyData}, D.pyL x = some p → D.pyL y = some q → D.alkL x y = true → PySem.W.alikeAll p q = true
  | [], y, p, q, h1, h2, _ => by simp only [D.pyL] at h1; cases h1; simp [PySem.W.alikeAll]
  | x :: xs, [], p, q, h1, h2, _ => by
    simp only [D.pyL] at h2
    cases h2
    cases p <;> simp [PySem.W.alikeAll]
  | x :: xs, y :: ys, p, q, h1, h2, h => by
    simp only [D.pyL, Option.bind_eq_some_iff, Option.map_eq_some_iff] at h1 h2
    obtain ⟨a, e1, as, e2, rfl⟩ := h1
    obtain ⟨b, e3, bs, e4, rfl⟩ := h2
    simp only [D.alkL, Bool.and_eq_true] at h
    simp only [PySem.W.alikeAll, Bool.and_eq_true]
    exact ⟨alk_py e1 e3 h.1, alkL_py e2 e4 h.2⟩
end
theorem lex0 : PyProof.Rows.lexLt itemOrd (keyToksAll []) (keyToksAll []) = false := lex_irrefl _
theorem lex0c (y : PyData) (ys : List PyData) : PyProof.Rows.lexLt itemOrd (keyToksAll []) (keyToksAll (y :: ys)) = true := by
  rw [toks_all_cons]
  simp only [keyToksAll]
  rw [lex_diff (O := itemOrd) (by simp)]
  rfl
theorem lexc0 (y : PyData) (ys : List PyData) : PyProof.Rows.lexLt itemOrd (keyToksAll (y :: ys)) (keyToksAll []) = false := by
  rw [toks_all_cons]
  simp only [keyToksAll]
  rw [lex_diff (O := itemOrd) (by simp)]
  rfl
mutual
theorem lt_py : ∀ {x y : D} {p q : PyData}, x.py = some p → y.py = some q → PySem.W.alike p q = true → p ≠ .none → dataLt p q = D.lt x y
  | .bl a, .bl b, p, q, h1, h2, _, _ => by
    simp only [D.py] at h1 h2
    cases h1
    cases h2
    rw [dataLt_bool]
    cases a <;> cases b <;> rfl
  | .int _, .int _, p, q, h1, h2, _, _ => by simp only [D.py] at h1 h2; cases h1; cases h2; rw [dataLt_int]; rfl
  | .str _, .str _, p, q, h1, h2, _, _ => by simp only [D.py] at h1 h2; cases h1; cases h2; rw [dataLt_str]; rfl
  | .tup a, .tup b, p, q, h1, h2, h, _ => by
    simp only [D.py, Option.map_eq_some_iff] at h1 h2
    obtain ⟨ps, a1, rfl⟩ := h1
    obtain ⟨qs, a2, rfl⟩ := h2
    rw [dataLt_tuple]
    exact ltL_py a1 a2 (by simpa [PySem.W.alike] using h)
  | .lst a, .lst b, p, q, h1, h2, h, _ => by
    simp only [D.py, Option.map_eq_some_iff] at h1 h2
    obtain ⟨ps, a1, rfl⟩ := h1
    obtain ⟨qs, a2, rfl⟩ := h2
    rw [dataLt_list]
    exact ltL_py a1 a2 (by simpa [PySem.W.alike] using h)
  | .non, _, p, q, h1, h2, h, hn => by simp only [D.py] at h1; cases h1; exact absurd rfl hn
  | .fn _, _, p, q, h1, h2, h, hn | .scr _, _, p, q, h1, h2, h, hn => by simp only [D.py] at h1; cases h1
  | _, .fn _, p, q, h1, h2, h, hn | _, .scr _, p, q, h1, h2, h, hn => by simp only [D.py] at h2; cases h2
  | .bl _, .non, p, q, h1, h2, h, hn | .bl _, .int _, p, q, h1, h2, h, hn | .bl _, .str _, p, q, h1, h2, h, hn | .int _, .non, p, q, h1, h2, h, hn | .int _, .bl _, p, q, h1, h2, h, hn | .int _, .str _, p, q, h1, h2, h, hn
  | .str _, .non, p, q, h1, h2, h, hn | .str _, .bl _, p, q, h1, h2, h, hn | .str _, .int _, p, q, h1, h2, h, hn => by
    simp only [D.py] at h1 h2
    cases h1
    cases h2
    simp [PySem.W.alike] at h
  | .tup _, .non, p, q, h1, h2, h, hn | .tup _, .bl _, p, q, h1, h2, h, hn | .tup _, .int _, p, q, h1, h2, h, hn | .tup _, .str _, p, q, h1, h2, h, hn | .lst _, .non, p, q, h1, h2, h, hn | .lst _, .bl _, p, q, h1, h2, h, hn | .lst _, .int _, p, q, h1, h2, h, hn | .lst _, .str _, p, q, h1, h2, h, hn => by
    simp only [D.py, Option.map_eq_some_iff] at h1 h2
    obtain ⟨_, _, rfl⟩ := h1
    cases h2
    simp [PySem.W.alike] at h
  | .bl _, .tup _, p, q, h1, h2, h, hn | .int _, .tup _, p, q, h1, h2, h, hn | .str _, .tup _, p, q, h1, h2, h, hn | .bl _, .lst _, p, q, h1, h2, h, hn | .int _, .lst _, p, q, h1, h2, h, hn | .str _, .lst _, p, q, h1, h2, h, hn => by
    simp only [D.py, Option.map_eq_some_iff] at h1 h2
    obtain ⟨_, _, rfl⟩ := h2
    cases h1
    simp [PySem.W.alike] at h
  | .tup _, .lst _, p, q, h1, h2, h, hn | .lst _, .tup _, p, q, h1, h2, h, hn => by
    simp only [D.py, Option.map_eq_some_iff] at h1 h2
    obtain ⟨_, _, rfl⟩ := h1
    obtain ⟨_, _, rfl⟩ := h2
    simp [PySem.W.alike] at h
theorem ltL_py : ∀ {x y : List D} {p q : List PyData}, D.pyL x = some p → D.pyL y = some q → PySem.W.alikeAll p q = true → PyProof.Rows.lexLt itemOrd (keyToksAll p) (keyToksAll q) = D.ltL x y
  | [], [], p, q, h1, h2, _ => by cases h1; cases h2; exact lex0
  | [], y :: ys, p, q, h1, h2, _ => by
    cases h1
    simp only [D.pyL, Option.bind_eq_some_iff, Option.map_eq_some_iff] at h2
    obtain ⟨_, _, _, _, rfl⟩ := h2
    exact lex0c _ _
  | x :: xs, [], p, q, h1, h2, _ => by
    cases h2
    simp only [D.pyL, Option.bind_eq_some_iff, Option.map_eq_some_iff] at h1
    obtain ⟨_, _, _, _, rfl⟩ := h1
    exact lexc0 _ _
  | x :: xs, y :: ys, p, q, h1, h2, h => by
    simp only [D.pyL, Option.bind_eq_some_iff, Option.map_eq_some_iff] at h1 h2
    obtain ⟨a, e1, as, e2, rfl⟩ := h1
    obtain ⟨b, e3, bs, e4, rfl⟩ := h2
    simp only [PySem.W.alikeAll, Bool.and_eq_true] at h
    rw [dataLt_cons h.1, eqv_py e1 e3, ltL_py e2 e4 h.2, D.ltL]
    by_cases z : D.eqv x y = true
    · rw [if_pos z, if_pos z]
    · rw [if_neg z, if_neg z]
      refine lt_py e1 e3 h.1 fun zn => ?_
      subst zn
      cases b <;> simp [PySem.W.alike] at h
      have := eqv_py e1 e3
      simp [PyData.eqv] at this
      exact z this
end
def isI : D → Bool
  | .int _ => true
  | _ => false
def isIT : D → Bool
  | .tup l => l.all isI
  | _ => false
def isTp : D → Bool
  | .tup _ => true
  | _ => false
def notTn : D → Bool
  | .tup _ => false
  | .non => false
  | .fn _ => false
  | .scr _ => false
  | _ => true
def sortOk (l : List D) : Bool := l.all isI || (l.all isIT || ((l.all fun d => d.okd 50) && (l.all fun d => l.all fun e => D.alk d e) && (l.all isTp || l.all notTn)))
/-- the merge of two rows, told by fuel -/
def mrgF {α : Type} (le : α → α → Bool) : Nat → List α → List α → List α
  | 0, _, ys => ys
  | n + 1, [], ys => ys
  | n + 1, x :: xs, [] => x :: xs
  | n + 1, x :: xs, y :: ys => if le x y then x :: mrgF le n xs (y :: ys) else y :: mrgF le n (x :: xs) ys
theorem mrgF_eq {α : Type} {le : α → α → Bool} : ∀ {n : Nat} {xs ys : List α}, xs.length + ys.length ≤ n → mrgF le n xs ys = List.merge xs ys le
  | 0, [], [], _ => by simp [mrgF]
  | 0, x :: xs, ys, h => by simp at h
  | 0, [], y :: ys, h => by simp at h
  | n + 1, [], ys, _ => by simp [mrgF]
  | n + 1, x :: xs, [], _ => by simp [mrgF]
  | n + 1, x :: xs, y :: ys, h => by
    rw [mrgF, List.cons_merge_cons]
    simp only [List.length_cons] at h
    split
    · rw [mrgF_eq (by simp only [List.length_cons]; omega)]
    · rw [mrgF_eq (by simp only [List.length_cons]; omega)]
def srtF {α : Type} (le : α → α → Bool) : Nat → List α → List α
  | 0, l => l
  | _ + 1, [] => []
  | _ + 1, [a] => [a]
  | n + 1, a :: b :: r => mrgF le (r.length + 2) (srtF le n ((a :: b :: r).take ((r.length + 2 + 1) / 2))) (srtF le n ((a :: b :: r).drop ((r.length + 2 + 1) / 2)))
theorem srtF_eq {α : Type} {le : α → α → Bool} : ∀ {n : Nat} {l : List α}, l.length ≤ n → srtF le n l = l.mergeSort le
  | 0, l, h => by
    have e := List.length_eq_zero_iff.mp (Nat.le_zero.mp h)
    subst e
    simp [srtF]
  | n + 1, [], _ => by simp [srtF]
  | n + 1, [a], _ => by simp [srtF]
  | n + 1, a :: b :: r, h => by
    simp only [List.length_cons] at h
    have e1 : (List.MergeSort.Internal.splitInTwo ⟨a :: b :: r, rfl⟩).1.1 = (a :: b :: r).take ((r.length + 2 + 1) / 2) := by simp [List.MergeSort.Internal.splitInTwo, List.splitAt_eq]
    have e2 : (List.MergeSort.Internal.splitInTwo ⟨a :: b :: r, rfl⟩).2.1 = (a :: b :: r).drop ((r.length + 2 + 1) / 2) := by simp [List.MergeSort.Internal.splitInTwo, List.splitAt_eq]
    rw [srtF, List.mergeSort]
    rw [e1, e2, srtF_eq (by simp; omega), srtF_eq (by simp; omega), mrgF_eq]
    simp
    omega
def sortD (l : List D) : List D := srtF (fun a b => !D.lt b a) l.length l
theorem isI_py {d : D} (h : isI d = true) : ∃ i, d = .int i := by cases d <;> first | exact ⟨_, rfl⟩ | cases h
theorem isIT_py {d : D} (h : isIT d = true) : ∃ ns : List Int, d = .tup (ns.map .int) := by
  cases d with
  | tup l =>
    simp only [isIT] at h
    refine ⟨l.map fun d => match d with | .int i => i | _ => 0, ?_⟩
    congr 1
    induction l with
    | nil => rfl
    | cons x l ih =>
      rw [List.all_cons, Bool.and_eq_true] at h
      obtain ⟨i, rfl⟩ := isI_py h.1
      rw [List.map_cons, List.map_cons, ← ih h.2]
  | _ => cases h
theorem pyL_ints : ∀ {ns : List Int}, D.pyL (ns.map .int) = some (ns.map .int)
  | [] => rfl
  | n :: ns => by
    simp only [List.map_cons, D.pyL, D.py, Option.bind_some]
    rw [pyL_ints]
    rfl
theorem sortOk_ok {l : List D} (h : sortOk l = true) : OkSort (l.map enc) ∧ ∀ d ∈ l, d.py = some (enc d) := by
  simp only [sortOk, Bool.or_eq_true, Bool.and_eq_true, List.all_eq_true] at h
  rcases h with h | h | ⟨⟨h1, h2⟩, h3⟩
  · have py : ∀ d ∈ l, ∃ i, d.py = some (.int i) ∧ enc d = .int i := fun d hd => by
      obtain ⟨i, rfl⟩ := isI_py (h d hd)
      exact ⟨i, rfl, rfl⟩
    refine ⟨⟨fun p hp q hq => ?_, .inr fun p hp => ?_, fun p hp => ?_⟩, fun d hd => by obtain ⟨i, e1, e2⟩ := py d hd; rw [e1, e2]⟩
    · obtain ⟨d, hd, rfl⟩ := List.mem_map.mp hp
      obtain ⟨e, he, rfl⟩ := List.mem_map.mp hq
      obtain ⟨i, _, e1⟩ := py d hd
      obtain ⟨j, _, e2⟩ := py e he
      rw [e1, e2]
      simp [PySem.W.alike]
    · obtain ⟨d, hd, rfl⟩ := List.mem_map.mp hp
      obtain ⟨i, _, e1⟩ := py d hd
      rw [e1]
      exact ⟨by simp, by simp⟩
    · obtain ⟨d, hd, rfl⟩ := List.mem_map.mp hp
      obtain ⟨i, _, e1⟩ := py d hd
      rw [e1]
      simp [PyData.depth]
  · have py : ∀ d ∈ l, ∃ ns : List Int, d.py = some (.tuple (ns.map .int)) ∧ enc d = .tuple (ns.map .int) := fun d hd => by
      obtain ⟨ns, rfl⟩ := isIT_py (h d hd)
      have : (D.tup (ns.map .int)).py = some (.tuple (ns.map .int)) := by
        simp only [D.py, pyL_ints, Option.map_some]
      exact ⟨ns, this, enc_of this⟩
    refine ⟨⟨fun p hp q hq => ?_, .inl fun p hp => ?_, fun p hp => ?_⟩, fun d hd => by obtain ⟨i, e1, e2⟩ := py d hd; rw [e1, e2]⟩
    · obtain ⟨d, hd, rfl⟩ := List.mem_map.mp hp
      obtain ⟨e, he, rfl⟩ := List.mem_map.mp hq
      obtain ⟨i, _, e1⟩ := py d hd
      obtain ⟨j, _, e2⟩ := py e he
      rw [e1, e2]
      simp only [PySem.W.alike]
      exact alike_ints i j
    · obtain ⟨d, hd, rfl⟩ := List.mem_map.mp hp
      obtain ⟨i, _, e1⟩ := py d hd
      exact ⟨_, e1⟩
    · obtain ⟨d, hd, rfl⟩ := List.mem_map.mp hp
      obtain ⟨i, _, e1⟩ := py d hd
      rw [e1]
      simp only [PyData.depth, depth_ints]
      omega
  · have py : ∀ d ∈ l, d.py = some (enc d) ∧ (enc d).depth ≤ 50 := fun d hd => by
      obtain ⟨p, hp, _, dp⟩ := okd_py (h1 d hd)
      rw [hp, enc_of hp]
      exact ⟨rfl, dp⟩
    refine ⟨⟨fun p hp q hq => ?_, ?_, fun p hp => ?_⟩, fun d hd => (py d hd).1⟩
    · obtain ⟨d, hd, rfl⟩ := List.mem_map.mp hp
      obtain ⟨e, he, rfl⟩ := List.mem_map.mp hq
      exact alk_py (py d hd).1 (py e he).1 (h2 d hd e he)
    · rcases h3 with h3 | h3
      · refine .inl fun p hp => ?_
        obtain ⟨d, hd, rfl⟩ := List.mem_map.mp hp
        have h4 := h3 d hd
        have h5 := (py d hd).1
        cases d <;> first | cases h4 | skip
        simp only [D.py] at h5
        obtain ⟨ps, _, e⟩ := Option.map_eq_some_iff.mp h5
        exact ⟨ps, e.symm⟩
      · refine .inr fun p hp => ?_
        obtain ⟨d, hd, rfl⟩ := List.mem_map.mp hp
        have h4 := h3 d hd
        have h5 := (py d hd).1
        cases d <;> first | cases h4 | skip
        all_goals simp only [D.py] at h5
        · rw [← Option.some.inj h5]; exact ⟨by simp, by simp⟩
        · rw [← Option.some.inj h5]; exact ⟨by simp, by simp⟩
        · rw [← Option.some.inj h5]; exact ⟨by simp, by simp⟩
        · obtain ⟨ps, _, e⟩ := Option.map_eq_some_iff.mp h5
          rw [← e]
          exact ⟨by simp, by simp⟩
    · obtain ⟨d, hd, rfl⟩ := List.mem_map.mp hp
      exact (py d hd).2
theorem okSort_ne {ps : List PyData} (h : OkSort ps) {p : PyData} (hp : p ∈ ps) : p ≠ .none := by
  rcases h.kind with k | k
  · obtain ⟨xs, rfl⟩ := k p hp
    exact fun z => nomatch z
  · exact (k p hp).1
theorem sortD_merge {l : List D} (h : sortOk l = true) : sortD l = l.mergeSort (dataLe false enc) := by
  obtain ⟨ok, py⟩ := sortOk_ok h
  unfold sortD
  rw [srtF_eq (Nat.le_refl _)]
  refine PySem.W.sort_congr fun a ha b hb => ?_
  show (!D.lt b a) = !dataLt (enc b) (enc a)
  have hb' : enc b ∈ l.map enc := List.mem_map.mpr ⟨b, hb, rfl⟩
  have ha' : enc a ∈ l.map enc := List.mem_map.mpr ⟨a, ha, rfl⟩
  rw [lt_py (py b hb) (py a ha) (ok.alike _ hb' _ ha') (okSort_ne ok hb')]
section
variable {g : G} {X : Cx} {m : Mm} {st : Stor} {H : Hp}
theorem relL_zip : ∀ {vs : List V} {ds : List D}, RelL g m st H vs ds → (vs.zip ds).map Prod.fst = vs ∧ (vs.zip ds).map Prod.snd = ds ∧ ∀ p ∈ vs.zip ds, Rel g m st H p.1 p.2
  | _, _, .nil => ⟨rfl, rfl, by simp⟩
  | v :: vs, d :: ds, .cons r t => by
    obtain ⟨h1, h2, h3⟩ := relL_zip t
    refine ⟨by rw [List.zip_cons_cons, List.map_cons, h1], by rw [List.zip_cons_cons, List.map_cons, h2], fun p hp => ?_⟩
    rcases List.mem_cons.mp hp with e | e
    · rw [e]
      exact r
    · exact h3 p e
theorem relL_pairs : ∀ {ps : List (V × D)}, (∀ p ∈ ps, Rel g m st H p.1 p.2) → RelL g m st H (ps.map Prod.fst) (ps.map Prod.snd)
  | [], _ => .nil
  | p :: ps, h => .cons (h p List.mem_cons_self) (relL_pairs fun q hq => h q (List.mem_cons_of_mem _ hq))
def dSorted (st : Stor) : List W → Option W
  | [w] => (w.items st).bind fun l => if sortOk l then some (.n (sortD l)) else none
  | _ => none
theorem cd_sorted (hK : X.K = g.K) (hu : X.A.units + 64 < cLine) : CallD g X (.builtin "sorted") dSorted := ⟨_, cr_sortD hu, fun m st H xs ws w Q wd r e q => by
  unfold dSorted at e
  split at e
  · rename_i w1
    cases z : w1.items st with
    | none => rw [z] at e; cases e
    | some l =>
      rw [z] at e
      simp only [Option.bind_some] at e
      split at e
      · rename_i hok
        cases e
        obtain ⟨x, H0, rfl, r1⟩ := r.one
        obtain ⟨a, ys, rfl, h2, h3⟩ := r1.items wd z
        obtain ⟨k1, k2, k3⟩ := relL_zip h3
        obtain ⟨ok, py⟩ := sortOk_ok hok
        refine ⟨V × D, a, ys.zip l, Prod.fst, fun p => enc p.2, rfl, by rw [k1]; exact hK ▸ h2, fun b hb => ?_, ?_, fun p hp => ?_⟩
        · exact hK ▸ (k3 b hb).dp (py _ (by rw [← k2]; exact List.mem_map.mpr ⟨b, hb, rfl⟩))
        · have : (ys.zip l).map (fun p => enc p.2) = l.map enc := by
            rw [show (fun p : V × D => enc p.2) = enc ∘ Prod.snd from rfl, ← List.map_map, k2]
          rw [this]
          exact ok
        · refine q _ _ (step_new wd hp) ?_
          have e1 : sortD l = ((ys.zip l).mergeSort (dataLe false fun p => enc p.2)).map Prod.snd := by
            rw [sortD_merge hok, PySem.W.sort_maps (r := dataLe false fun p : V × D => enc p.2) (s := dataLe false enc) (l := ys.zip l) Prod.snd (fun _ _ _ _ => rfl), k2]
          rw [e1]
          exact rel_newL wd hp (relL_pairs fun p hp => k3 p ((List.mergeSort_perm _ _).mem_iff.mp hp))
      · cases e
  · cases e⟩
/-- the first of the least -/
def minL (d : D) (r : List D) : D := r.foldl (fun a y => if D.lt y a then y else a) d
theorem minL_mem : ∀ (r : List D) (d : D), minL d r ∈ d :: r
  | [], d => List.mem_cons_self
  | x :: r, d => by
    show minL (if D.lt x d then x else d) r ∈ _
    have := minL_mem r (if D.lt x d then x else d)
    rcases List.mem_cons.mp this with e | e
    · rw [e]
      split
      · simp
      · simp
    · simp [e]
theorem minL_enc : ∀ (r : List D) (d : D), OkSort ((d :: r).map enc) → (∀ e ∈ d :: r, e.py = some (enc e)) → enc (minL d r) = minD (enc d) (r.map enc)
  | [], d, _, _ => rfl
  | x :: r, d, ok, py => by
    have hx : x ∈ d :: x :: r := by simp
    have hd : d ∈ d :: x :: r := by simp
    have e1 : dataLt (enc x) (enc d) = D.lt x d := lt_py (py x hx) (py d hd) (ok.alike _ (List.mem_map.mpr ⟨x, hx, rfl⟩) _ (List.mem_map.mpr ⟨d, hd, rfl⟩)) (okSort_ne ok (List.mem_map.mpr ⟨x, hx, rfl⟩))
    show enc (minL (if D.lt x d then x else d) r) = minD (if dataLt (enc x) (enc d) then enc x else enc d) (r.map enc)
    have sub : ∀ e, e ∈ (if D.lt x d then x else d) :: r → e ∈ d :: x :: r := fun e he => by
      rcases List.mem_cons.mp he with z | z
      · rw [z]
        split
        · exact hx
        · exact hd
      · simp [z]
    have subE : ∀ p, p ∈ ((if D.lt x d then x else d) :: r).map enc → p ∈ (d :: x :: r).map enc := fun p hp => by
      obtain ⟨e, he, rfl⟩ := List.mem_map.mp hp
      exact List.mem_map.mpr ⟨e, sub e he, rfl⟩
    rw [minL_enc r _ ⟨fun p hp q hq => ok.alike _ (subE p hp) _ (subE q hq), ok.kind.imp (fun k p hp => k p (subE p hp)) (fun k p hp => k p (subE p hp)), fun p hp => ok.depth p (subE p hp)⟩ (fun e he => py e (sub e he)), e1]
    split <;> rfl
theorem depthAll_le : ∀ {ps : List PyData}, (∀ p ∈ ps, p.depth ≤ 50) → PyData.depthAll ps ≤ 50
  | [], _ => by simp [PyData.depthAll]
  | p :: ps, h => by
    have h1 := h p List.mem_cons_self
    have h2 := depthAll_le fun q hq => h q (List.mem_cons_of_mem _ hq)
    simp only [PyData.depthAll]
    omega
theorem pyL_all : ∀ {l : List D}, (∀ d ∈ l, d.py = some (enc d)) → D.pyL l = some (l.map enc)
  | [], _ => rfl
  | d :: l, h => by
    simp only [D.pyL, h d List.mem_cons_self, pyL_all fun e he => h e (List.mem_cons_of_mem _ he), Option.bind_some, Option.map_some, List.map_cons]
def dMinT (st : Stor) : List W → Option W
  | [w] => (w.asL st).bind fun l => match l with
    | d :: r => if sortOk (d :: r) then some (.d (minL d r)) else none
    | [] => none
  | _ => none
def dMin (st : Stor) (ws : List W) : Option W := match dMin0 st ws with
  | some w => some w
  | none => dMinT st ws
theorem cd_minT (hK : X.K = g.K) (hc : X.calm = true) (hu : X.A.units + 64 < cLine) : CallD g X (.builtin "min") dMinT := ⟨_, cr_minD hc hu, fun m st H xs ws w Q wd r e q => by
  unfold dMinT at e
  split at e
  · rename_i w1
    cases z : w1.asL st with
    | none => rw [z] at e; cases e
    | some l =>
      rw [z] at e
      simp only [Option.bind_some] at e
      split at e
      · rename_i d r' 
        split at e
        · rename_i hok
          cases e
          obtain ⟨x, H0, rfl, r1⟩ := r.one
          obtain ⟨a, ys, rfl, h2, h3⟩ := r1.asL wd z
          obtain ⟨ok, py⟩ := sortOk_ok hok
          refine ⟨a, ys, enc d, r'.map enc, rfl, SqL.of h2, hK ▸ h3.dp (pyL_all py), ⟨fun p hp q hq => ok.alike p hp q hq, fun p hp => okSort_ne ok hp⟩, depthAll_le fun p hp => ok.depth p hp, fun i x hx hi => ?_⟩
          · rw [← minL_enc r' d ok py, ← List.map_cons, List.getElem?_map] at hi
            obtain ⟨d1, hd1, he1⟩ := Option.map_eq_some_iff.mp hi
            have e1 := py d1 (List.mem_of_getElem? hd1)
            have e2 := py _ (minL_mem r' d)
            rw [he1] at e1
            have e3 := py_inj e1 e2
            rw [e3] at hd1
            obtain ⟨x', hx', rx⟩ := h3.get i hd1
            rw [hx] at hx'
            cases hx'
            exact q _ _ (.refl wd) (show Rel _ _ _ _ _ _ from rx)
        · cases e
      · cases e
  · cases e⟩
theorem cd_min (hK : X.K = g.K) (hc : X.calm = true) (hu : X.A.units + 64 < cLine) : CallD g X (.builtin "min") dMin := by
  obtain ⟨r1, h1, k1⟩ := cd_min0 (g := g) hK hc
  obtain ⟨r2, h2, k2⟩ := cd_minT (g := g) hK hc hu
  refine ⟨_, CallR.or h1 h2, fun m st H xs ws w Q wd r e q => ?_⟩
  unfold dMin at e
  split at e
  · rename_i z
    cases e
    exact .inl (k1 m st H xs ws _ Q wd r z q)
  · exact .inr (k2 m st H xs ws w Q wd r e q)
end
end DL

set_option maxHeartbeats 2000000
/-! DL: enumerate over a tuple. -/
namespace DL
open PySem PySem.Spec PyProof.Rows L2
theorem meets_enumerate_newT (l : Addr) (items : Array Value) (n : Nat) (dct : Option Addr) (sl : Array (Option Value)) :
    Meets (Builtin.«enumerate.__new__» ⟨[.type "enumerate", .ref l], []⟩) (fun _ R s => s.heap.get? l = some { cls := .type "tuple", dict := dct, data := .seq items n, slots := sl } ∧
      R (.ok (.ret (.ref (s.heap.push { cls := .type "tuple_iterator", data := .fields #[.ref l, .int 0 0] }).objs.size)))
        { s with heap := (s.heap.push { cls := .type "tuple_iterator", data := .fields #[.ref l, .int 0 0] }).push { cls := .type "enumerate", data := .fields #[.none, .bool false, .ref s.heap.objs.size, rawInt 0, .none, .none] } }) :=
  .of_wp fun prog w A R s h => by
    obtain ⟨hp, g, d, tk, os⟩ := s; obtain ⟨hl, h⟩ := h
    have hsub := sub_enumerate
    have hL : Heap.IsTuple (Shared.heap ⟨hp, g, d, tk, os⟩) l items := ⟨_, hl, rfl, n, rfl⟩
    wp_walk using PySem.AutoSeq1.wpAny_loadPart' hl
    refine wpAny_stack_any fun st => wpAny_pure ?_
    split
    · rename_i c _ _ _ _ _
      cases (c == Value.type "enumerate")
      · wp_walk using PySem.AutoSeq1.wpAny_loadPart' hl, wpAny_pyIter_tuple hL
        exact ⟨_, rfl, h⟩
      · wp_walk using PySem.AutoSeq1.wpAny_loadPart' hl, wpAny_pyIter_tuple hL
        exact ⟨_, rfl, h⟩
    · wp_walk using PySem.AutoSeq1.wpAny_loadPart' hl, wpAny_pyIter_tuple hL
      exact ⟨_, rfl, h⟩
theorem call_enumerate_tuple {prog : Program} {w : World} {A : Around} {E : Value → Shared → Prop} {s : Shared} {l : Addr} {items : Array Value} {Q : Value → Shared → Prop} (hL : s.heap.IsTuple l items)
    (h : ∀ h', IsEnum h' (s.heap.objs.size + 1) s.heap.objs.size 0 .none → h'.IsTupleIter s.heap.objs.size l 0 → h'.objs.size = s.heap.objs.size + 2 →
      (∀ b o, s.heap.get? b = some o → h'.get? b = some o) → Q (.ref (s.heap.objs.size + 1)) { s with heap := h' }) :
    wpAny (model prog w) A (call (.type "enumerate") [.ref l]) Q E s := by
  obtain ⟨⟨c, dct, dt, sl⟩, hl, hc, n, hd⟩ := hL
  replace hc : c = .type "tuple" := hc
  replace hd : dt = .seq items n := hd
  subst hc hd
  refine callType_new F.called_enumerate (by decide) (F.typeCall_enumerate_1 _) (F.newCall_enumerate_1 _) (fun obj => F.args_object_init_2 obj _) F.entry_enumerate_new
    (meets_enumerate_newT l items n dct sl) ⟨hl, ?_⟩
  have hz : (s.heap.push { cls := .type "tuple_iterator", data := .fields #[.ref l, .int 0 0] }).objs.size = s.heap.objs.size + 1 := Heap.size_push ..
  show _ ∧ _
  rw [hz]
  have he : IsEnum ((s.heap.push { cls := .type "tuple_iterator", data := .fields #[.ref l, .int 0 0] }).push
      { cls := .type "enumerate", data := .fields #[.none, .bool false, .ref s.heap.objs.size, rawInt 0, .none, .none] }) (s.heap.objs.size + 1) s.heap.objs.size 0 .none := by
    have := Heap.get?_push_size (s.heap.push { cls := .type "tuple_iterator", data := .fields #[.ref l, .int 0 0] })
      (o := { cls := .type "enumerate", data := .fields #[.none, .bool false, .ref s.heap.objs.size, rawInt 0, .none, .none] }) rfl
    rw [hz] at this; exact this
  refine ⟨⟨_, he, rfl⟩, h _ he ⟨_, Heap.get?_push_of_some _ (Heap.get?_push_size _ rfl), rfl, rfl⟩ (by rw [Heap.size_push, hz]) fun b o x => Heap.get?_push_of_some _ (Heap.get?_push_of_some _ x)⟩

/-- the tuple at a, each item in a new pair -/
def IteT (K : PySem.W.Frag) (a : Addr) : It :=
  ⟨fun i H => ∃ (xs : List V) (x : V), SqT K H a xs ∧ xs[i]? = some x, fun i H v H' => ∃ T x, v = .ref T ∧ H T = none ∧ H' = upd H T (.tup [.int (i : Nat), x]) ∧ ∀ xs, SqT K H a xs → xs[i]? = some x, fun i H => ∃ xs : List V, SqT K H a xs ∧ xs.length ≤ i⟩
theorem turn_enumT {P : Program} {w : World} {K : PySem.W.Frag} {elts : List Expr} {kk : Nat} {tpos : Pos} (a e it : Addr) :
    Turn P w K (.Tuple elts kk tpos) (IteT K a) [e, it] e (fun i h => (∃ old, IsEnum h e it ((i : Nat) : Int) old) ∧ h.IsTupleIter it a i ∧ e ≠ it) where
  mem := by simp
  obj := fun i h st b hb => by
    obtain ⟨⟨old, he⟩, ⟨o, ho, hc, hd⟩, _⟩ := st
    have e' : b = e ∨ b = it := by simpa using hb
    rcases e' with z | z
    · rw [z]; exact ⟨_, he, fun v q => nomatch q⟩
    · rw [z]; exact ⟨o, ho, fun v q => by rw [hd] at q; cases q⟩
  keep := fun i h h' st k => let ⟨⟨old, he⟩, hi, hne⟩ := st; ⟨⟨old, k e (by simp) _ he⟩, hi.at fun o q => k it (by simp) o q, hne⟩
  item := by
    intro X hP hw hK hc i pins s σ H E I hf st hg
    subst hP hw hK
    obtain ⟨⟨old, he⟩, hit, hne⟩ := st
    obtain ⟨xs, x, hq, hx⟩ := hg
    obtain ⟨its, rv, p, hz⟩ := I.tuple hq
    obtain ⟨u, hu, ru⟩ := rv.get hx
    have hel : e < s.heap.objs.size := Heap.lt_size he
    have hil : it < s.heap.objs.size := by obtain ⟨_, q, _⟩ := hit; exact Heap.lt_size q
    have hai : a ≠ it := by
      obtain ⟨o1, q1, c1, _⟩ := id hit
      obtain ⟨o2, q2, c2, _⟩ := id p
      intro z
      subst z
      rw [q1] at q2
      cases q2
      rw [c1] at c2
      injection c2 with z3
      exact absurd z3 (by decide)
    have hae : e ≠ a := by
      obtain ⟨o2, q2, c2, _⟩ := id p
      intro z
      subst z
      have he' : s.heap.get? e = some _ := he
      rw [he'] at q2
      cases q2
      injection c2 with z3
      exact absurd z3 (by decide)
    have hi : i < its.toArray.size := by
      have := (List.getElem?_eq_some_iff.mp hu).1
      simpa using this
    refine wpAny_pyNext_enum_itemD (Draws.tuple (prog := X.prog) (w := X.w) (A := X.A.in1) (I.ok.hd hc) it a hai its.toArray) he ⟨hit, p⟩ hi hne (by simp [hne, hae]) fun u' h' tk hPx ho hst' hT hsz hk => ?_
    have eu : u' = u := by
      have : its.toArray[i]? = some u := by simpa using hu
      rw [hPx] at this
      exact Option.some.inj this
    subst eu
    refine ⟨_, rfl, wpAny_letOwnedTupleGo_enum (s := { s with heap := h', toks := tk + 1 }) ho fun h'' he' sb => ?_⟩
    have hT2 : h''.get? s.heap.objs.size = some { cls := .type "tuple", data := .seq #[.int i tk, u'] } := (sb.2 _ (Nat.ne_of_gt hel)).trans hT
    have new : ObjOk X.prog X.w (upd H s.heap.objs.size (.tup [.int (i : Nat), x])) h'' s.heap.objs.size (.tup [.int (i : Nat), x]) :=
      ⟨by show 2 ≤ sizeLine; decide, [.int i tk, u'], .cons ⟨_, rfl⟩ (.cons ru .nil), ⟨_, hT2, rfl, _, rfl⟩⟩
    have I1 : Inv X pins σ (upd H s.heap.objs.size (.tup [.int (i : Nat), x])) { s with heap := h'', toks := tk + 1 } :=
      I.turnedNew (ch := [e, it]) (fun b ob hb q => (sb.2 b (fun z => hb (by simp [z]))).trans (hk b ob (fun z => hb (by simp [z])) (fun z => hb (by simp [z])) q)) hf (Nat.le_refl _) new
    refine ⟨.ref s.heap.objs.size, _, I1, rfl, ⟨_, x, rfl, I.hok.fresh (Nat.le_refl _), rfl, fun ys hy => by rw [I.tuple_inj hy hq]; exact hx⟩, ⟨⟨u', ?_⟩, hst'.1.at fun o q => (sb.2 it (Ne.symm hne)).trans q, hne⟩, fun b hb => ?_⟩
    · have e1 : ((i + 1 : Nat) : Int) = (i : Int) + 1 := by omega
      rw [e1]; exact he'
    · have hb' : b < s.heap.objs.size := by
        have e' : b = e ∨ b = it := by simpa using hb
        rcases e' with z | z
        · rw [z]; exact hel
        · rw [z]; exact hil
      rw [upd_ne (Nat.ne_of_lt hb')]
      exact (hf b hb).1
  done := by
    intro X hP hw hK hc i pins s σ H E I hf st hg
    subst hP hw hK
    obtain ⟨⟨old, he⟩, hit, hne⟩ := st
    obtain ⟨xs, hq, hx⟩ := hg
    obtain ⟨its, rv, p, hz⟩ := I.tuple hq
    obtain ⟨f0, f1, f2, f3, f4, f5⟩ := hf it (by simp)
    have hl := rv.length
    have hT : s.TypeIs (.ref e) "enumerate" := ⟨_, he, rfl⟩
    unfold pyNext
    refine wpAny_bind (wpAny_attempt (wpAny_callSpecial?_slot (name := Str.ofString "__next__") hT F.slot_enumerate_next
      (wpAny_call_entry F.slot_enumerate_next hT F.entry_enumerate_next ?_ (F.args_enumerate_next_1 _))))
    show wpAny _ _ (field (.ref e) 2 >>= _) _ _ _
    refine wpAny_bind (wpAny_field he rfl (x := .ref it) rfl ?_)
    refine wpAny_bind (wpAny_nextOf_tuple_end (A := X.A.in1) (I.ok.hd hc) hit p (by simp; omega) fun h' x he' hx' => ?_)
    obtain ⟨o, ho, hc⟩ := hx'
    refine wpAny_bind (wpAny_isInstance (T := "StopIteration") (b := true) ⟨o, ho, hc⟩ isSubtype_stop ?_)
    exact wpAny_pure ⟨rfl, I.turned (t' := s.toks) (fun b o hb q => he' b o hb q) f0 f1 f3 f4 f5⟩
  self := fun A i s Q E st h => let ⟨⟨_, he⟩, _⟩ := st; wpAny_pyIter_enum he h
def iEnumA (K : PySem.W.Frag) (ta : TA) : TI := fun σ H R => ta σ H fun vs H1 => ∃ a xs, vs = [.ref a] ∧ ((SqL K H1 a xs ∧ R (Ite K a) H1) ∨ (SqT K H1 a xs ∧ R (IteT K a) H1))
theorem pi_enumA {X : Cx} {e : Expr} {ta : TA} {p pos tpos : Pos} {elts : List Expr} {kk : Nat} (hg : Gl X "enumerate") (hm : X.mg "enumerate" = none) (ha : PA X [e] ta) (hs : starEach [e] X.env = [(false, eval e X.env)] := by rfl) :
    PI X (.Tuple elts kk tpos) (.Call (.Name "enumerate" p) [e] [] pos) (iEnumA X.K ta) := by
  refine ⟨fun pins s σ H R I h => ?_⟩
  refine Call_ (ld_blt I hg hm boot_enumerate (PyProof.Rows.callWith_type1 (thn (ha.run pos pins s σ H _ I h) fun us s1 ⟨vs, H1, I1, r1, q1⟩ => ?_) hs rfl))
  obtain ⟨a, xs, ex, q1⟩ := q1
  subst ex
  cases r1 with
  | cons r rr =>
    cases rr
    cases r
    have fp : ∀ b ∈ [s1.heap.objs.size + 1, s1.heap.objs.size], FpOk X pins H1 b := fun b hb => by
      have e' : b = s1.heap.objs.size + 1 ∨ b = s1.heap.objs.size := by simpa using hb
      have hle : s1.heap.objs.size ≤ b := by
        rcases e' with z | z
        · rw [z]; exact Nat.le_add_right _ _
        · rw [z]; exact Nat.le_refl _
      exact I1.fpOk hle (I1.hok.fresh hle)
    rcases q1 with ⟨hq, q⟩ | ⟨hq, q⟩
    · obtain ⟨its, rv, p', hz⟩ := I1.list hq
      refine call_enumerate_list p'.isList fun h' he hit hsz hk => wpAny_pyIter_enum he ?_
      have I2 : Inv X pins σ H1 { s1 with heap := h' } := I1.kept (t' := s1.toks) hk
      exact ⟨s1.heap.objs.size + 1, [s1.heap.objs.size + 1, s1.heap.objs.size], _, _, H1, rfl, I2, turn_enum a (s1.heap.objs.size + 1) s1.heap.objs.size, ⟨⟨.none, he⟩, hit, Nat.succ_ne_self _⟩, fp, q⟩
    · obtain ⟨its, rv, p', hz⟩ := I1.tuple hq
      refine call_enumerate_tuple p' fun h' he hit hsz hk => wpAny_pyIter_enum he ?_
      have I2 : Inv X pins σ H1 { s1 with heap := h' } := I1.kept (t' := s1.toks) hk
      exact ⟨s1.heap.objs.size + 1, [s1.heap.objs.size + 1, s1.heap.objs.size], _, _, H1, rfl, I2, turn_enumT a (s1.heap.objs.size + 1) s1.heap.objs.size, ⟨⟨.none, he⟩, hit, Nat.succ_ne_self _⟩, fp, q⟩
/-- over what is a list or a tuple -/
def iAny (K : PySem.W.Frag) (tl : TE) : TI := fun σ H R => tl σ H fun x H1 => ∃ a xs, x = .ref a ∧ ((SqL K H1 a xs ∧ R (Itl K a) H1) ∨ (SqT K H1 a xs ∧ R (Itt K a) H1))
theorem pi_any {X : Cx} {tg l : Expr} {tl : TE} (hl : PE X l tl) : PI X tg l (iAny X.K tl) := by
  refine ⟨fun pins s σ H R I h => ?_⟩
  refine thn (hl.run pins s σ H _ I h) fun v s1 ⟨x, H1, I1, r1, q1⟩ => ?_
  obtain ⟨a, xs, e, q1⟩ := q1
  subst e
  cases r1
  have fp : ∀ b ∈ [s1.heap.objs.size], FpOk X pins H1 b := fun b hb => by
    have e : b = s1.heap.objs.size := by simpa using hb
    subst e
    exact I1.fpOk (Nat.le_refl _) (I1.hok.fresh (Nat.le_refl _))
  rcases q1 with ⟨hq, q⟩ | ⟨hq, q⟩
  · obtain ⟨its, rv, p, hz⟩ := I1.list hq
    refine wpAny_pyIter_list p.isList ?_
    exact ⟨s1.heap.objs.size, [s1.heap.objs.size], _, _, H1, rfl, I1.kept (t' := s1.toks) fun b o e => Heap.get?_push_of_some _ e, turn_list a _, ⟨_, Heap.get?_push_size _ rfl, rfl, rfl⟩, fp, q⟩
  · obtain ⟨its, rv, p, hz⟩ := I1.tuple hq
    refine wpAny_pyIter_tuple (show s1.heap.IsTuple a its.toArray from p) ?_
    exact ⟨s1.heap.objs.size, [s1.heap.objs.size], _, _, H1, rfl, I1.kept (t' := s1.toks) fun b o e => Heap.get?_push_of_some _ e, turn_tuple a _, ⟨_, Heap.get?_push_size _ rfl, rfl, rfl⟩, fp, q⟩
end DL

/-! DL: what is walked; list comprehensions. -/
namespace DL
open PySem PySem.Spec PyProof.Rows L2

/-- a walk over the items ds, whatever else happens behind (H1, st1) -/
def ItOk (g : G) (m1 : Mm) (st1 : Stor) (H1 : Hp) (J : It) (ds : List D) : Prop :=
  ∀ (m : Mm) (st : Stor) (H : Hp), StepP g m1 st1 H1 m st H → ∀ i, (∀ d, ds[i]? = some d → J.go i H ∧ ∀ x H', J.yld i H x H' → Step g m st H m st H' ∧ Rel g m st H' x d) ∧ (ds.length ≤ i → J.stop i H)
abbrev RI_ (g : G) (m : Mm) : Stor → Hp → Hp → It → List D → Prop := fun st _ H J ds => ItOk g m st H J ds
theorem back_i {g : G} {m : Mm} : Back (RI_ g m) := fun _ _ _ _ _ _ _ r => r
structure RI (c : Cf) (X : Cx) (Wx : WX) (tg iter : Expr) (f : DenL) : Prop where
  ex : Amb c X → L2N.Takes X Wx → ∃ wi, PI X tg iter wi ∧ ∀ σ H env m st R, EnvR c.g m st H σ env → Wd c.g m st H → Post c.g m σ Wx st H (RI_ c.g m) (f env st) R → wi σ H R
section
variable {g : G} {m : Mm} {st : Stor} {H : Hp}
theorem itok_list {a : Addr} {xs : List V} {ds : List D} (h : LsR m st H a xs) (r : RelL g m st H xs ds) {K : PySem.W.Frag} : ItOk g m st H (Itl K a) ds := fun m' st' H' s i => by
  have h2 := (h.ext s.ext).sq (K := K)
  have r2 := r.ext s.ext
  refine ⟨fun d e => ?_, fun hi => ⟨xs, h2, by rw [r.length]; exact hi⟩⟩
  obtain ⟨v, e1, e2⟩ := r2.get i e
  refine ⟨⟨xs, v, h2, e1⟩, fun x H'' y => ?_⟩
  obtain ⟨rfl, y⟩ := y
  have ex := (y xs h2).symm.trans e1
  cases ex
  exact ⟨.refl s.wd, e2⟩
theorem itok_tup {a : Addr} {xs : List V} {ds : List D} (h : TpR g.K m st H a xs) (r : RelL g m st H xs ds) : ItOk g m st H (Itt g.K a) ds := fun m' st' H' s i => by
  have h2 := (h.ext s.ext).sq
  have r2 := r.ext s.ext
  refine ⟨fun d e => ?_, fun hi => ⟨xs, h2, by rw [r.length]; exact hi⟩⟩
  obtain ⟨v, e1, e2⟩ := r2.get i e
  refine ⟨⟨xs, v, h2, e1⟩, fun x H'' y => ?_⟩
  obtain ⟨rfl, y⟩ := y
  have ex := (y xs h2).symm.trans e1
  cases ex
  exact ⟨.refl s.wd, e2⟩
/-- the ints of a range -/
def rangeD (lo : Int) (n : Nat) : List D := (List.range n).map fun (i : Nat) => .int (lo + (i : Int))
theorem itok_range {lo : Int} {n : Nat} : ItOk g m st H (Itr lo n) (rangeD lo n) := fun m' st' H' s i => by
  have hl : (rangeD lo n).length = n := by unfold rangeD; simp
  refine ⟨fun d e => ?_, fun hi => by rw [hl] at hi; exact hi⟩
  unfold rangeD at e
  rw [List.getElem?_map] at e
  cases z : (List.range n)[i]? with
  | none => rw [z] at e; cases e
  | some j =>
    rw [z] at e
    obtain ⟨hi, ej⟩ := List.getElem?_eq_some_iff.mp z
    rw [List.getElem_range] at ej
    subst ej
    cases e
    refine ⟨show i < n by simpa using hi, fun x H'' y => ?_⟩
    obtain ⟨rfl, rfl⟩ := y
    exact ⟨.refl s.wd, .int _⟩
/-- pairs, each in a new tuple -/
def pairsD : List D → List D → List D
  | x :: xs, y :: ys => .tup [x, y] :: pairsD xs ys
  | _, _ => []
theorem pairsD_get : ∀ (xs ys : List D) (i : Nat) (d : D), (pairsD xs ys)[i]? = some d → ∃ x y, xs[i]? = some x ∧ ys[i]? = some y ∧ d = .tup [x, y]
  | x :: xs, y :: ys, 0, d, e => by simp [pairsD] at e; exact ⟨x, y, rfl, rfl, e.symm⟩
  | x :: xs, y :: ys, i + 1, d, e => by
    simp [pairsD] at e
    obtain ⟨a, b, h1, h2, h3⟩ := pairsD_get xs ys i d e
    exact ⟨a, b, by simpa using h1, by simpa using h2, h3⟩
  | [], _, i, d, e => by simp [pairsD] at e
  | _ :: _, [], i, d, e => by simp [pairsD] at e
theorem pairsD_len : ∀ (xs ys : List D), (pairsD xs ys).length = min xs.length ys.length
  | x :: xs, y :: ys => by simp [pairsD, pairsD_len xs ys]
  | [], _ => by simp [pairsD]
  | _ :: _, [] => by simp [pairsD]
theorem yld_pair {m' st' H' H'' T x y dx dy} (w : Wd g m' st' H') (hT : H' T = none) (hH : H'' = upd H' T (.tup [x, y])) (rx : Rel g m' st' H' x dx) (ry : Rel g m' st' H' y dy) : Step g m' st' H' m' st' H'' ∧ Rel g m' st' H'' (.ref T) (.tup [dx, dy]) := by
  subst hH
  exact ⟨step_new w hT, rel_newT w hT (.cons rx (.cons ry .nil))⟩
theorem itok_zipL {a b : Addr} {xs ys : List V} {ds es : List D} (ha : LsR m st H a xs) (ra : RelL g m st H xs ds) (hb : LsR m st H b ys) (rb : RelL g m st H ys es) {K : PySem.W.Frag} : ItOk g m st H (Itz K a b) (pairsD ds es) := fun m' st' H' s i => by
  have ha2 := (ha.ext s.ext).sq (K := K)
  have hb2 := (hb.ext s.ext).sq (K := K)
  refine ⟨fun d e => ?_, fun hi => ⟨xs, ys, ha2, hb2, ?_⟩⟩
  · obtain ⟨dx, dy, e1, e2, rfl⟩ := pairsD_get ds es i d e
    obtain ⟨x, h1, r1⟩ := (ra.ext s.ext).get i e1
    obtain ⟨y, h2, r2⟩ := (rb.ext s.ext).get i e2
    refine ⟨⟨xs, ys, x, y, ha2, hb2, h1, h2⟩, fun v H'' yl => ?_⟩
    obtain ⟨T, x', y', rfl, hT, hH, f1, f2⟩ := yl
    have ex := (f1 xs ha2).symm.trans h1
    cases ex
    have ey := (f2 ys hb2).symm.trans h2
    cases ey
    exact yld_pair s.wd hT hH r1 r2
  · rw [pairsD_len] at hi
    rw [ra.length, rb.length]
    omega
theorem itok_zipT {a b : Addr} {xs ys : List V} {ds es : List D} (ha : TpR g.K m st H a xs) (ra : RelL g m st H xs ds) (hb : TpR g.K m st H b ys) (rb : RelL g m st H ys es) : ItOk g m st H (RZ.ItzT g.K a b) (pairsD ds es) := fun m' st' H' s i => by
  have ha2 := (ha.ext s.ext).sq
  have hb2 := (hb.ext s.ext).sq
  refine ⟨fun d e => ?_, fun hi => ⟨xs, ys, ha2, hb2, ?_⟩⟩
  · obtain ⟨dx, dy, e1, e2, rfl⟩ := pairsD_get ds es i d e
    obtain ⟨x, h1, r1⟩ := (ra.ext s.ext).get i e1
    obtain ⟨y, h2, r2⟩ := (rb.ext s.ext).get i e2
    refine ⟨⟨xs, ys, x, y, ha2, hb2, h1, h2⟩, fun v H'' yl => ?_⟩
    obtain ⟨T, x', y', rfl, hT, hH, f1, f2⟩ := yl
    have ex := (f1 xs ha2).symm.trans h1
    cases ex
    have ey := (f2 ys hb2).symm.trans h2
    cases ey
    exact yld_pair s.wd hT hH r1 r2
  · rw [pairsD_len] at hi
    rw [ra.length, rb.length]
    omega
theorem itok_enumL {a : Addr} {xs : List V} {ds : List D} (ha : LsR m st H a xs) (ra : RelL g m st H xs ds) {K : PySem.W.Frag} : ItOk g m st H (Ite K a) (pairsD (rangeD 0 ds.length) ds) := fun m' st' H' s i => by
  have ha2 := (ha.ext s.ext).sq (K := K)
  have hrl : (rangeD 0 ds.length).length = ds.length := by unfold rangeD; simp
  refine ⟨fun d e => ?_, fun hi => ⟨xs, ha2, ?_⟩⟩
  · obtain ⟨dx, dy, e1, e2, rfl⟩ := pairsD_get _ ds i d e
    obtain ⟨y, h2, r2⟩ := (ra.ext s.ext).get i e2
    refine ⟨⟨xs, y, ha2, h2⟩, fun v H'' yl => ?_⟩
    obtain ⟨T, y', rfl, hT, hH, f2⟩ := yl
    have ey := (f2 xs ha2).symm.trans h2
    cases ey
    have ei : dx = .int (i : Nat) := by
      unfold rangeD at e1
      rw [List.getElem?_map] at e1
      cases z : (List.range ds.length)[i]? with
      | none => rw [z] at e1; cases e1
      | some j =>
        rw [z] at e1
        obtain ⟨hi, ej⟩ := List.getElem?_eq_some_iff.mp z
        rw [List.getElem_range] at ej
        subst ej
        cases e1
        simp
    subst ei
    exact yld_pair s.wd hT hH (.int _) r2
  · rw [pairsD_len, hrl] at hi
    rw [ra.length]
    omega
end
theorem itok_enumT {g : G} {m : Mm} {st : Stor} {H : Hp} {a : Addr} {xs : List V} {ds : List D} (ha : TpR g.K m st H a xs) (ra : RelL g m st H xs ds) : ItOk g m st H (IteT g.K a) (pairsD (rangeD 0 ds.length) ds) := fun m' st' H' s i => by
  have ha2 := (ha.ext s.ext).sq
  have hrl : (rangeD 0 ds.length).length = ds.length := by unfold rangeD; simp
  refine ⟨fun d e => ?_, fun hi => ⟨xs, ha2, ?_⟩⟩
  · obtain ⟨dx, dy, e1, e2, rfl⟩ := pairsD_get _ ds i d e
    obtain ⟨y, h2, r2⟩ := (ra.ext s.ext).get i e2
    refine ⟨⟨xs, y, ha2, h2⟩, fun v H'' yl => ?_⟩
    obtain ⟨T, y', rfl, hT, hH, f2⟩ := yl
    have ey := (f2 xs ha2).symm.trans h2
    cases ey
    have ei : dx = .int (i : Nat) := by
      unfold rangeD at e1
      rw [List.getElem?_map] at e1
      cases z : (List.range ds.length)[i]? with
      | none => rw [z] at e1; cases e1
      | some j =>
        rw [z] at e1
        obtain ⟨hi, ej⟩ := List.getElem?_eq_some_iff.mp z
        rw [List.getElem_range] at ej
        subst ej
        cases e1
        simp
    subst ei
    exact yld_pair s.wd hT hH (.int _) r2
  · rw [pairsD_len, hrl] at hi
    rw [ra.length]
    omega
/-- pure lists and tuples -/
theorem Rel.lst_inv {g : G} {m st H v l} (r : Rel g m st H v (.lst l)) : ∃ a xs, v = .ref a ∧ LsR m st H a xs ∧ RelL g m st H xs l := by
  cases r with
  | lst h1 h2 => exact ⟨_, _, rfl, h1, h2⟩
theorem Rel.tup_inv {g : G} {m st H v l} (r : Rel g m st H v (.tup l)) : ∃ a xs, v = .ref a ∧ TpR g.K m st H a xs ∧ RelL g m st H xs l := by
  cases r with
  | tup h1 h2 => exact ⟨_, _, rfl, h1, h2⟩
def D.asLst : D → Option (List D)
  | .lst l => some l
  | _ => none
def D.asTup : D → Option (List D)
  | .tup l => some l
  | _ => none
section
variable {c : Cf} {X : Cx} {Wx : WX} {a b e3 tg : Expr} {fa fb f3 : Den} {pos p2 p tpos : Pos} {elts : List Expr} {kk : Nat}
@[simp] def iL (f : Den) : DenL := fun env st => (f env st).bind fun w st => .ofO (w.toD.bind D.asLst) st
@[simp] def iT (f : Den) : DenL := fun env st => (f env st).bind fun w st => .ofO (w.toD.bind D.asTup) st
theorem toD_lst {g : G} {m st H0 H v} {w : W} {l : List D} (r : RelW g m st H0 H v w) (e : w.toD.bind D.asLst = some l) : ∃ a xs, v = .ref a ∧ LsR m st H a xs ∧ RelL g m st H xs l := by
  cases z : w.toD with
  | none => rw [z] at e; cases e
  | some d =>
    rw [z] at e
    cases d <;> cases e
    exact (r.toD z).lst_inv
theorem toD_tup {g : G} {m st H0 H v} {w : W} {l : List D} (r : RelW g m st H0 H v w) (e : w.toD.bind D.asTup = some l) : ∃ a xs, v = .ref a ∧ TpR g.K m st H a xs ∧ RelL g m st H xs l := by
  cases z : w.toD with
  | none => rw [z] at e; cases e
  | some d =>
    rw [z] at e
    cases d <;> cases e
    exact (r.toD z).tup_inv
/-- over what is a list or a tuple -/
def W.seqD (w : W) : Option (List D) := match w.toD with
  | some (.lst l) => some l
  | some (.tup l) => some l
  | _ => none
theorem seqD_rel {g : G} {m st H0 H v} {w : W} {l : List D} (r : RelW g m st H0 H v w) (e : w.seqD = some l) : ∃ a xs, v = .ref a ∧ (LsR m st H a xs ∨ TpR g.K m st H a xs) ∧ RelL g m st H xs l := by
  unfold W.seqD at e
  split at e
  · rename_i z
    cases e
    obtain ⟨a, xs, h1, h2, h3⟩ := (r.toD z).lst_inv
    exact ⟨a, xs, h1, .inl h2, h3⟩
  · rename_i z
    cases e
    obtain ⟨a, xs, h1, h2, h3⟩ := (r.toD z).tup_inv
    exact ⟨a, xs, h1, .inr h2, h3⟩
  · cases e
@[simp] def iS (f : Den) : DenL := fun env st => (f env st).bind fun w st => .ofO w.seqD st
theorem ri_seq (ha : RE c X Wx a fa) : RI c X Wx tg a (iS fa) := ⟨fun am tk => by
  obtain ⟨t, pa, va⟩ := ha.ex am tk
  refine ⟨_, pi_any pa, fun σ H env m st R E w h => va σ H env m st _ E w (Post.bind (RA := RW_ c.g m) back_i h fun w1 st1 _ v H1 s1 r1 h => ?_)⟩
  obtain ⟨l, e, h⟩ := h.ofO
  obtain ⟨q, xs, rfl, h1 | h1, h2⟩ := seqD_rel r1 e
  · exact ⟨q, xs, rfl, .inl ⟨h1.sq, h.ok s1.wd (itok_list h1 h2)⟩⟩
  · exact ⟨q, xs, rfl, .inr ⟨am.K ▸ h1.sq, h.ok s1.wd (am.K ▸ itok_tup h1 h2)⟩⟩⟩
@[simp] def iEnum_ (f : Den) : DenL := fun env st => (f env st).bind fun w st => (Res.ofO w.seqD st).bind fun l st => .ok (pairsD (rangeD 0 l.length) l) st
theorem ri_enum (ha : RE c X Wx a fa) (hg : Gl X "enumerate" := by rfl) (hs : starEach [a] X.env = [(false, eval a X.env)] := by rfl) : RI c X Wx (.Tuple elts kk tpos) (.Call (.Name "enumerate" p) [a] [] pos) (iEnum_ fa) := ⟨fun am tk => by
  obtain ⟨t, pa, va⟩ := ha.ex am tk
  refine ⟨_, pi_enumA hg (am.blt "enumerate" (by decide)) (pa_cons pa pa_nil hs) hs, fun σ H env m st R E w h => va σ H env m st _ E w (Post.bind (RA := RW_ c.g m) back_i h fun w1 st1 _ v H1 s1 r1 h => ?_)⟩
  cases e : w1.seqD with
  | none => rw [e] at h; exact h.elim
  | some l =>
    rw [e] at h
    obtain ⟨q, xs, rfl, h1 | h1, h2⟩ := seqD_rel r1 e
    · exact ⟨q, xs, rfl, .inl ⟨h1.sq, h.ok s1.wd (itok_enumL h1 h2)⟩⟩
    · exact ⟨q, xs, rfl, .inr ⟨am.K ▸ h1.sq, h.ok s1.wd (am.K ▸ itok_enumT h1 h2)⟩⟩⟩
def W.lsD (w : W) : Option (List D) := w.toD.bind D.asLst
def zipO (w w' : W) : Option (List D) := match w.toD, w'.toD with
  | some (.lst l), some (.lst l') => some (pairsD l l')
  | some (.tup l), some (.tup l') => some (pairsD l l')
  | _, _ => none
@[simp] def iZip_ (f f' : Den) : DenL := fun env st => (f env st).bind fun w st => (f' env st).bind fun w' st => .ofO (zipO w w') st
theorem ri_zip (ha : RE c X Wx a fa) (hb : RE c X Wx b fb) (hg : Gl X "zip" := by rfl) (hs : starEach [a, b] X.env = (false, eval a X.env) :: starEach [b] X.env := by rfl) (hs2 : starEach [b] X.env = (false, eval b X.env) :: starEach [] X.env := by rfl) (hpl : (backTo pos (starEach [b] X.env)).any (·.1) = false := by rfl) :
    RI c X Wx (.Tuple elts kk tpos) (.Call (.Name "zip" p) [a, b] [] pos) (iZip_ fa fb) := ⟨fun am tk => by
  obtain ⟨t, pa, va⟩ := ha.ex am tk
  obtain ⟨t2, pb, vb⟩ := hb.ex am tk
  refine ⟨_, RZ.pi_zipA hg (am.blt "zip" (by decide)) (pa_cons pa (pa_cons pb pa_nil hs2) hs) hs hpl, fun σ H env m st R E w h => va σ H env m st _ E w (Post.bind (RA := RW_ c.g m) back_i h fun w1 st1 _ v H1 s1 r1 h => ?_)⟩
  refine vb σ H1 env m st1 _ (E.ext s1.ext s1.pre) s1.wd (Post.bind (RA := RW_ c.g m) back_i h fun w2 st2 _ v2 H2 s2 r2 h => ?_)
  obtain ⟨l, e, h⟩ := h.ofO
  unfold zipO at e
  split at e
  · rename_i z1 z2
    cases e
    obtain ⟨p1, xs1, rfl, a1, a2⟩ := (r1.toD z1).lst_inv
    obtain ⟨p2, xs2, rfl, b1, b2⟩ := (r2.toD z2).lst_inv
    exact ⟨p1, p2, xs1, xs2, rfl, .inl ⟨(a1.ext s2.ext).sq, b1.sq, h.ok s2.wd (itok_zipL (a1.ext s2.ext) (a2.ext s2.ext) b1 b2)⟩⟩
  · rename_i z1 z2
    cases e
    obtain ⟨p1, xs1, rfl, a1, a2⟩ := (r1.toD z1).tup_inv
    obtain ⟨p2, xs2, rfl, b1, b2⟩ := (r2.toD z2).tup_inv
    exact ⟨p1, p2, xs1, xs2, rfl, .inr ⟨am.K ▸ (a1.ext s2.ext).sq, am.K ▸ b1.sq, h.ok s2.wd (am.K ▸ itok_zipT (a1.ext s2.ext) (a2.ext s2.ext) b1 b2)⟩⟩
  · cases e⟩
def rng1 (n : Int) (st : Stor) : Res (List D) := if decide (n.natAbs < 4611686018427387904) then .ok (rangeD 0 n.toNat) st else .no
def rng2 (n k : Int) (st : Stor) : Res (List D) := if decide (n.natAbs < 4611686018427387904) && decide (k.natAbs < 4611686018427387904) then .ok (rangeD n (k - n).toNat) st else .no
@[simp] def i1 (f : Den) : DenL := fun env st => (f env st).bind fun w st => (Res.ofO w.asI st).bind fun n st => rng1 n st
theorem ri_range1 (ha : RE c X Wx a fa) (hg : Gl X "range" := by rfl) (hs : starEach [a] X.env = [(false, eval a X.env)] := by rfl) : RI c X Wx tg (.Call (.Name "range" p) [a] [] pos) (i1 fa) := ⟨fun am tk => by
  obtain ⟨t, pa, va⟩ := ha.ex am tk
  refine ⟨_, pi_range1 hg (am.blt "range" (by decide)) (pa_cons pa pa_nil hs) hs, fun σ H env m st R E w h => va σ H env m st _ E w (Post.bind (RA := RW_ c.g m) back_i h fun w1 st1 _ v H1 s1 r1 h => ?_)⟩
  cases z : w1.asI with
  | none => rw [z] at h; exact h.elim
  | some n =>
    rw [z] at h
    have e := r1.w0.asI z
    subst e
    have h : Post c.g m σ Wx st1 H1 (RI_ c.g m) (if decide (n.natAbs < 4611686018427387904) = true then .ok (rangeD 0 n.toNat) st1 else .no) R := h
    by_cases z2 : decide (n.natAbs < 4611686018427387904) = true
    · rw [if_pos z2] at h
      rw [decide_eq_true_eq] at z2
      exact ⟨n, rfl, by omega, by omega, h.ok s1.wd itok_range⟩
    · rw [if_neg z2] at h
      exact h.elim⟩
@[simp] def i2 (f f' : Den) : DenL := fun env st => (f env st).bind fun w st => (f' env st).bind fun w' st => (Res.ofO w.asI st).bind fun n st => (Res.ofO w'.asI st).bind fun k st => rng2 n k st
theorem ri_range2 (ha : RE c X Wx a fa) (hb : RE c X Wx b fb) (hg : Gl X "range" := by rfl) (hs : starEach [a, b] X.env = [(false, eval a X.env), (false, eval b X.env)] := by rfl) (hs2 : starEach [b] X.env = [(false, eval b X.env)] := by rfl) : RI c X Wx tg (.Call (.Name "range" p) [a, b] [] pos) (i2 fa fb) := ⟨fun am tk => by
  obtain ⟨t, pa, va⟩ := ha.ex am tk
  obtain ⟨t2, pb, vb⟩ := hb.ex am tk
  refine ⟨_, pi_range2 hg (am.blt "range" (by decide)) (pa_cons pa (pa_cons pb pa_nil hs2) (by rw [hs, hs2])) hs hs2, fun σ H env m st R E w h => va σ H env m st _ E w (Post.bind (RA := RW_ c.g m) back_i h fun w1 st1 _ v H1 s1 r1 h => ?_)⟩
  refine vb σ H1 env m st1 _ (E.ext s1.ext s1.pre) s1.wd (Post.bind (RA := RW_ c.g m) back_i h fun w2 st2 _ v2 H2 s2 r2 h => ?_)
  cases z : w1.asI with
  | none => rw [z] at h; exact h.elim
  | some n =>
    cases z' : w2.asI with
    | none => rw [z, z'] at h; exact h.elim
    | some k =>
      rw [z, z'] at h
      have e := r1.w0.asI z
      subst e
      have e := r2.w0.asI z'
      subst e
      have h : Post c.g m σ Wx st2 H2 (RI_ c.g m) (if (decide (n.natAbs < 4611686018427387904) && decide (k.natAbs < 4611686018427387904)) = true then .ok (rangeD n (k - n).toNat) st2 else .no) R := h
      by_cases z2 : (decide (n.natAbs < 4611686018427387904) && decide (k.natAbs < 4611686018427387904)) = true
      · rw [if_pos z2] at h
        rw [Bool.and_eq_true, decide_eq_true_eq, decide_eq_true_eq] at z2
        exact ⟨n, k, rfl, ⟨by omega, by omega, by omega, by omega⟩, h.ok s2.wd itok_range⟩
      · rw [if_neg z2] at h
        exact h.elim⟩
end
end DL

/-! DL: targets; list comprehensions. -/
namespace DL
open PySem PySem.Spec PyProof.Rows L2

/-! ### targets -/
/-- the slots but those at which something is stored now -/
def EnvX (g : G) (m : Mm) (st : Stor) (H : Hp) (σ : L2.St) (env : Envi) (slots : List Nat) : Prop :=
  σ.length = env.length ∧ ∀ (j : Nat) (s : SV), j ∉ slots → env[j]? = some (some s) → ∃ v, σ[j]? = some (some v) ∧ RelS g m st H v s
theorem EnvR.x {g : G} {m st H σ env} (E : EnvR g m st H σ env) (slots : List Nat) : EnvX g m st H σ env slots := ⟨E.len, fun j s _ e => E.at_ j s e⟩
def gOf (g : G) (slots : List Nat) (f : D → Envi → Option Envi) : TG := fun v σ H Q => ∃ d env env' m st, EnvX g m st H σ env slots ∧ Rel g m st H v d ∧ f d env = some env' ∧
  ∀ σ', EnvR g m st H σ' env' → σ'.length = σ.length → (∀ j, j ∉ slots → σ'[j]? = σ[j]?) → Q σ' H
structure RG (c : Cf) (X : Cx) (e : Expr) (slots : List Nat) (f : D → Envi → Option Envi) : Prop where
  ex : Amb c X → PG X e (gOf c.g slots f)
def gsOf (g : G) (slots : List Nat) (f : List D → Envi → Option Envi) : TGs := fun vs σ H Q => ∃ ds env env' m st, EnvX g m st H σ env slots ∧ RelL g m st H vs ds ∧ f ds env = some env' ∧
  ∀ σ', EnvR g m st H σ' env' → σ'.length = σ.length → (∀ j, j ∉ slots → σ'[j]? = σ[j]?) → Q σ' H
structure RGs (c : Cf) (X : Cx) (e : List Expr) (slots : List Nat) (f : List D → Envi → Option Envi) : Prop where
  ex : Amb c X → PGs X e (gsOf c.g slots f)
section
variable {X : Cx}
theorem _root_.L2.PG.weak {e : Expr} {t t' : TG} (h : PG X e t) (hw : ∀ v σ H Q, t' v σ H Q → t v σ H Q) : PG X e t' := ⟨fun pins s σ H v u Q I r q => h.run pins s σ H v u Q I r (hw _ _ _ _ q)⟩
theorem _root_.L2.PGs.weak {e : List Expr} {t t' : TGs} (h : PGs X e t) (hw : ∀ v σ H Q, t' v σ H Q → t v σ H Q) : PGs X e t' := ⟨fun pins s σ H v u Q I r q => h.run pins s σ H v u Q I r (hw _ _ _ _ q)⟩
end
def setE (env : Envi) (i : Nat) (s : SV) : Option Envi := if i < env.length then some (env.set i (some s)) else none
@[simp] def tN (i : Nat) : D → Envi → Option Envi := fun d env => setE env i (.d d)
@[simp] def tNil : List D → Envi → Option Envi := fun ds env => match ds with
  | [] => some env
  | _ => none
@[simp] def tCons (f : D → Envi → Option Envi) (r : List D → Envi → Option Envi) : List D → Envi → Option Envi := fun ds env => match ds with
  | d :: ds => (f d env).bind fun env => r ds env
  | [] => none
@[simp] def tT (n : Nat) (r : List D → Envi → Option Envi) : D → Envi → Option Envi := fun d env => match d with
  | .tup l => if l.length = n then r l env else none
  | _ => none
theorem setE_some {env env' : Envi} {i : Nat} {s : SV} (h : setE env i s = some env') : i < env.length ∧ env' = env.set i (some s) := by
  unfold setE at h
  split at h
  · cases h
    exact ⟨by assumption, rfl⟩
  · cases h
section
variable {c : Cf} {X : Cx} {x : Str} {pos : Pos}
theorem EnvX.set {g : G} {m st H σ env i v s} {rest : List Nat} (E : EnvX g m st H σ env (i :: rest)) (hi : i < env.length) (r : RelS g m st H v s) : EnvX g m st H (σ.set i (some v)) (env.set i (some s)) rest := by
  refine ⟨by rw [List.length_set, List.length_set]; exact E.1, fun j s' hj e => ?_⟩
  by_cases h : i = j
  · subst h
    rw [List.getElem?_set_self hi] at e
    cases e
    exact ⟨v, List.getElem?_set_self (by rw [E.1]; exact hi), r⟩
  · rw [List.getElem?_set_ne h] at e ⊢
    exact E.2 j s' (by simp [Ne.symm h, hj]) e
theorem EnvX.nil {g : G} {m st H σ env} (E : EnvX g m st H σ env []) : EnvR g m st H σ env := ⟨E.1, fun j s e => E.2 j s (by simp) e⟩
theorem rg_name {i : Nat} (hi : X.N[i]? = some x := by rfl) (hx : Loc X.env.scope x := by first | exact Or.inl rfl | exact Or.inr rfl) (hf : X.fn x = true ∨ X.env.scope.names.lookup x = some .local := by first | exact .inl rfl | exact .inr rfl) : RG c X (.Name x pos) [i] (tN i) := ⟨fun am =>
  (pg_name am.nd hi hx hf).weak fun v σ H Q ⟨d, env, env', m, st, E, r, e, q⟩ => by
    obtain ⟨hlt, rfl⟩ := setE_some e
    exact q _ (E.set hlt (show RelS _ _ _ _ _ (.d d) from r)).nil (List.length_set ..) fun j hj => List.getElem?_set_ne (by simpa using Ne.symm (by simpa using hj))⟩
theorem rgs_nil : RGs c X [] [] tNil := ⟨fun am => pgs_nil.weak fun vs σ H Q ⟨ds, env, env', m, st, E, r, e, q⟩ => by
  cases ds with
  | nil =>
    cases r
    cases e
    exact ⟨rfl, q σ E.nil rfl fun _ _ => rfl⟩
  | cons d ds => cases e⟩
theorem rgs_cons {i : Nat} {rest : List Nat} {es : List Expr} {r : List D → Envi → Option Envi} (h2 : RGs c X es rest r) (hi : X.N[i]? = some x := by rfl) (hx : Loc X.env.scope x := by first | exact Or.inl rfl | exact Or.inr rfl) (hf : X.fn x = true ∨ X.env.scope.names.lookup x = some .local := by first | exact .inl rfl | exact .inr rfl)
    (hs : (assignEach (.Name x pos :: es) X.env).map (·.2) = assign (.Name x pos) X.env :: (assignEach es X.env).map (·.2) := by rfl) : RGs c X (.Name x pos :: es) (i :: rest) (tCons (tN i) r) := ⟨fun am =>
  (pgs_cons (pg_name am.nd hi hx hf) (h2.ex am) hs).weak fun vs σ H Q ⟨ds, env, env', m, st, E, rl, e, q⟩ => by
    cases ds with
    | nil => cases e
    | cons d ds =>
      cases rl with
      | cons r1 r2 =>
        simp only [tCons, tN] at e
        cases z : setE env i (.d d) with
        | none => rw [z] at e; cases e
        | some env1 =>
          rw [z] at e
          obtain ⟨hlt, rfl⟩ := setE_some z
          refine ⟨_, _, rfl, ds, _, env', m, st, E.set hlt (show RelS _ _ _ _ _ (.d d) from r1), r2, e, fun σ' E' hl hj => q σ' E' (by rw [hl, List.length_set]) fun j h => ?_⟩
          rw [List.mem_cons, not_or] at h
          rw [hj j h.2, List.getElem?_set_ne (Ne.symm h.1)]⟩
/-- a nested target, its slots first -/
theorem rgs_consT {s1 rest : List Nat} {e : Expr} {es : List Expr} {f : D → Envi → Option Envi} {r : List D → Envi → Option Envi} (h1 : RG c X e s1 f) (h2 : RGs c X es rest r) (hd : ∀ j ∈ s1, j ∉ rest) 
    (hs : (assignEach (e :: es) X.env).map (·.2) = assign e X.env :: (assignEach es X.env).map (·.2) := by rfl) (hf : ∀ d env env', f d env = some env' → env'.length = env.length ∧ ∀ j, j ∉ s1 → env'[j]? = env[j]?) : True := trivial
theorem rg_tup {slots : List Nat} {es : List Expr} {k n : Nat} {r : List D → Envi → Option Envi} (h : RGs c X es slots r) (hn : (assignEach es X.env).length = n := by rfl) (hst : (assignEach es X.env).findIdx? (·.1) = none := by rfl) (hc : X.calm = true := by rfl) : RG c X (.Tuple es k pos) slots (tT n r) := ⟨fun am =>
  (pg_tup hc (h.ex am) hn hst).weak fun v σ H Q ⟨d, env, env', m, st, E, r1, e, q⟩ => by
    cases d with
    | tup l =>
      obtain ⟨a, xs, rfl, h1, h2⟩ := r1.tup_inv
      simp only [tT] at e
      split at e
      · rename_i hl
        exact ⟨a, xs, rfl, am.K ▸ h1.sq, by rw [h2.length]; exact hl, l, env, env', m, st, E, h2, e, q⟩
      · cases e
    | _ => cases e⟩
end

/-! ### list comprehensions -/
def lcGo (step : D → Stor → Res (Option D)) : List D → Stor → Res (List D)
  | [], st => .ok [] st
  | d :: r, st => (step d st).bind fun o st => (lcGo step r st).bind fun l st => .ok (match o with | some x => x :: l | none => l) st
/-- one turn -/
def lcStep (tg : D → Envi → Option Envi) (tt : DenB) (te : Den) (env : Envi) (d : D) (st : Stor) : Res (Option D) :=
  match tg d env with
  | none => .no
  | some env1 => match tt env1 st with
    | .ok true st1 => match te env1 st1 with
      | .ok w st2 => match w.toD with
        | some x => .ok (some x) st2
        | none => .no
      | _ => .no
    | .ok false st1 => .ok none st1
    | _ => .no
@[simp] def eLc (fi : DenL) (tg : D → Envi → Option Envi) (tt : DenB) (te : Den) : Den := fun env st => (fi env st).bind fun ds st => if okLen ds then (lcGo (lcStep tg tt te env) ds st).bind fun l st => .ok (.n l) st else .no
theorem wipe_get (σ : L2.St) : ∀ (vs : List Nat) (j : Nat), (wipe σ vs)[j]? = if j ∈ vs then (if j < σ.length then some none else none) else σ[j]?
  | [], j => by simp [wipe]
  | v :: vs, j => by
    unfold wipe
    by_cases h : v = j
    · subst h
      rw [if_pos List.mem_cons_self]
      by_cases hl : v < σ.length
      · rw [if_pos hl, List.getElem?_set_self (by rw [wipe_length]; exact hl)]
      · rw [if_neg hl, List.getElem?_eq_none (by rw [List.length_set, wipe_length]; omega)]
    · rw [List.getElem?_set_ne h, wipe_get σ vs j]
      by_cases hm : j ∈ vs
      · rw [if_pos hm, if_pos (List.mem_cons_of_mem _ hm)]
      · rw [if_neg hm, if_neg (by simp [Ne.symm h, hm])]
theorem wipe_eq {σ σ' : L2.St} {vs : List Nat} (hl : σ'.length = σ.length) (h : ∀ j, j ∉ vs → σ'[j]? = σ[j]?) : wipe σ' vs = wipe σ vs := by
  apply List.ext_getElem?
  intro j
  rw [wipe_get, wipe_get, hl]
  by_cases hm : j ∈ vs
  · rw [if_pos hm, if_pos hm]
  · rw [if_neg hm, if_neg hm, h j hm]
abbrev WxF : WX := fun _ _ _ _ => False
theorem takesN0 {X : Cx} : L2N.Takes X WxF := fun _ _ x => by
  obtain ⟨_, _, _, _, _, _, _, _, _, _, _, _, _, _, _, _, z⟩ := x
  exact z.elim
theorem Amb.blk {c : Cf} {X : Cx} (am : Amb c X) (s : Shared) (H : Hp) (scope : Scope) (cl : List (Str × Addr)) (C : Addr) (fp : List Addr) : Amb c (X.blk s H scope (compEnvC scope cl C X.env) fp) := ⟨am.K, am.units, am.room, am.nd, am.blt, am.fns, am.cls, am.clok, am.con, am.sub, fun _ z => absurd rfl z, am.lam⟩
section
variable {c : Cf} {X : Cx} {Wx : WX} {elt tg iter : Expr} {pos : Pos}
structure RTs (c : Cf) (X : Cx) (Wx : WX) (es : List Expr) (f : DenB) : Prop where
  ex : Amb c X → L2N.Takes X Wx → PTs X es (tOfB c.g Wx f)
@[simp] def bYes : DenB := fun _ st => .ok true st
theorem rts_nil : RTs c X Wx [] bYes := ⟨fun _ _ => ⟨fun pins s σ H Q I h => by
  obtain ⟨env, m, st, E, w, h⟩ := h
  exact (pts_nil).run pins s σ H Q I (h.ok w rfl)⟩⟩
theorem rts_one {e : Expr} {f : DenB} (h : RT c X Wx e f) : RTs c X Wx [e] f := ⟨fun am tk => pts_one (h.pt am tk)⟩
theorem val_lc {g : G} {wi : TI} {own : List (Str × Nat)} {slots : List Nat} {fi : DenL} {ftg : D → Envi → Option Envi} {ft : DenB} {fe : Den} (hsl : ∀ j, j ∈ slots ↔ j ∈ own.map (·.2))
    (vi : ∀ σ H env m st R, EnvR g m st H σ env → Wd g m st H → Post g m σ Wx st H (RI_ g m) (fi env st) R → wi σ H R) :
    Val g Wx (tLc wi (gOf g slots ftg) (tOfB g WxF ft) (tOf g WxF fe) (own.map (·.2))) (eLc fi ftg ft fe) := fun σ H env m st Q E w h => by
  refine vi σ H env m st _ E w (Post.bind (RA := RI_ g m) back_w h fun ds st1 _ J H1 s1 hJ h p hp => ?_)
  rcases Bool.eq_false_or_eq_true (okLen ds) with hlen | hlen
  case inr =>
    rw [hlen] at h
    exact h.elim
  rw [if_pos hlen] at h
  have hlen' : ds.length ≤ 16777216 := of_decide_eq_true hlen
  have E1 := E.ext s1.ext s1.pre
  have hpad : p ∉ m.ad := fun hm => s1.wd.there p hm hp
  have s0 : StepP g m st1 H1 (m.hide p) st1 (upd H1 p (.lst [])) := stepP_hide s1.wd hp
  refine ⟨fun i n H2 => ∃ st2 acc vs, n = ds.length - i ∧ i ≤ ds.length ∧ acc.length ≤ i ∧ H2 p = some (.lst vs) ∧ StepP g m st1 H1 (m.hide p) st2 H2 ∧ RelL g (m.hide p) st2 H2 vs acc ∧
    lcGo (lcStep ftg ft fe env) ds st1 = (lcGo (lcStep ftg ft fe env) (ds.drop i) st2).bind fun l st => .ok (acc ++ l) st, ⟨ds.length, st1, [], [], by simp, Nat.zero_le _, Nat.zero_le _, upd_same, s0, .nil, ?_⟩, ?_⟩
  · rw [List.drop_zero]
    cases lcGo (lcStep ftg ft fe env) ds st1 <;> rfl
  rintro i n H2 ⟨st2, acc, vs, rfl, hi, hacc, hH2, s2, rl, heq⟩
  obtain ⟨hgo, hstop⟩ := hJ (m.hide p) st2 H2 s2 i
  rcases Nat.lt_or_ge i ds.length with hlt | hge
  case inr =>
    -- the end
    refine .inl ⟨hstop hge, ?_⟩
    rw [List.drop_eq_nil_of_le hge] at heq
    have heq : lcGo (lcStep ftg ft fe env) ds st1 = .ok (acc ++ []) st2 := heq
    rw [List.append_nil] at heq
    rw [heq] at h
    have st : Step g m st1 H1 m st2 H2 := ⟨wd_unhide s2.wd, s2.ext.trans ext_unhide, .refl _, s2.hid⟩
    exact h.okS (b := .ref p) st ⟨p, vs, rfl, hH2, rl, fun z => by
      rcases z with ⟨j, cc, h1, _⟩ | z
      · exact hpad (List.mem_of_getElem? h1)
      · exact s1.wd.hn z hp, hp, s2.wd⟩
  have hd : ds[i]? = some ds[i] := List.getElem?_eq_getElem hlt
  obtain ⟨go, hy⟩ := hgo _ hd
  refine .inr ⟨go, fun H3 => ∃ st3 acc3 vs3, acc3.length ≤ i + 1 ∧ H3 p = some (.lst vs3) ∧ StepP g m st1 H1 (m.hide p) st3 H3 ∧ RelL g (m.hide p) st3 H3 vs3 acc3 ∧
    lcGo (lcStep ftg ft fe env) ds st1 = (lcGo (lcStep ftg ft fe env) (ds.drop (i + 1)) st3).bind fun l st => .ok (acc3 ++ l) st, ?_, ?_⟩
  · rintro H3 ⟨st3, acc3, vs3, h1, h2, h3, h4, h5⟩
    exact ⟨ds.length - (i + 1), by omega, st3, acc3, vs3, rfl, hlt, h1, h2, h3, h4, h5⟩
  intro x H3 yl
  obtain ⟨s3, r3⟩ := hy x H3 yl
  have s23 := s2.trans s3.p
  have hph : p ∈ (m.hide p).hid := List.mem_cons_self
  have hH3 : H3 p = some (.lst vs) := (s3.hid p hph).trans hH2
  have E3 : EnvR g (m.hide p) st2 H3 σ env := E1.extP s23.ext s23.pad
  rw [List.drop_eq_getElem_cons hlt] at heq
  simp only [lcGo] at heq
  -- the turn's result
  cases hst : lcStep ftg ft fe env ds[i] st2 with
  | no =>
    rw [hst] at heq
    rw [heq] at h
    exact h.elim
  | err x st3 =>
    exfalso
    unfold lcStep at hst
    split at hst
    · cases hst
    · split at hst
      · split at hst
        · split at hst <;> cases hst
        · cases hst
      · cases hst
      · cases hst
  | ok o st4 =>
    rw [hst] at heq
    unfold lcStep at hst
    split at hst
    · cases hst
    rename_i env1 htg
    have X3 : EnvX g (m.hide p) st2 H3 (wipe σ (own.map (·.2))) env slots := by
      refine ⟨by rw [wipe_length]; exact E3.len, fun j s hj e => ?_⟩
      obtain ⟨v, e1, e2⟩ := E3.at_ j s e
      exact ⟨v, by rw [wipe_get, if_neg (fun z => hj ((hsl j).mpr z))]; exact e1, e2⟩
    refine ⟨ds[i], env, env1, m.hide p, st2, X3, r3, htg, fun σ2 E4 hl4 hj4 => ⟨?_, ?_⟩⟩
    · rw [wipe_eq (σ' := σ2) (σ := wipe σ (own.map (·.2))) hl4 (fun j hj => hj4 j (fun z => hj ((hsl j).mp z)))]
      exact wipe_eq (wipe_length ..) fun j hj => by rw [wipe_get, if_neg hj]
    -- the test
    have s3w := s3.wd
    refine ⟨env1, m.hide p, st2, E4, s3w, ?_⟩
    have fin : ∀ {o : Option D} {st5 : Stor} {H5 : Hp} {acc5 : List D} {vs5 : List V}, StepP g m st1 H1 (m.hide p) st5 H5 → H5 p = some (.lst vs5) → RelL g (m.hide p) st5 H5 vs5 acc5 → True := fun _ _ _ => trivial
    split at hst
    · rename_i st5 htt
      split at hst
      · rename_i w5 st6 hte
        split at hst
        · rename_i y hy6
          cases hst
          rw [htt]
          intro b H5 s5 eb
          cases (show b = true from eb)
          rw [if_pos rfl]
          refine ⟨env1, m.hide p, st5, E4.ext s5.ext s5.pre, s5.wd, ?_⟩
          rw [hte]
          intro yv H6 s6 r6
          have s56 := s5.trans s6
          have hH6 : H6 p = some (.lst vs) := (s56.hid p hph).trans hH3
          have s26 := s23.trans s56.p
          have rl6 := (rl.ext s3.ext).ext s56.ext
          have ry := r6.toD hy6
          have hlv : vs.length < sizeLine := by
            rw [sizeLine_eq, rl.length]
            omega
          refine ⟨vs, hH6, hlv, st4, acc ++ [y], vs ++ [yv], by rw [List.length_append, List.length_singleton]; omega, upd_same, ?_, ?_, ?_⟩
          · have eh := ext_hid (m := m.hide p) (st := st4) (ys := vs ++ [yv]) hph hH6
            refine ⟨wd_hid s26.wd hph hpad hH6, s26.ext.trans eh, s26.pad, s26.sub, fun a ha => ?_⟩
            rw [upd_ne (fun z => s1.wd.hn ha (by rw [z]; exact hp))]
            exact s26.hid a ha
          · exact (rl6.append (.cons ry .nil)).ext (ext_hid hph hH6)
          · rw [heq]
            simp only [Res.bind]
            cases lcGo (lcStep ftg ft fe env) (List.drop (i + 1) ds) st4 <;> simp
        · cases hst
      · cases hst
    · rename_i st5 htt
      cases hst
      rw [htt]
      intro b H5 s5 eb
      cases (show b = false from eb)
      rw [if_neg Bool.false_ne_true]
      have s25 := s23.trans s5.p
      exact ⟨st4, acc, vs, by omega, (s5.hid p hph).trans hH3, s25, (rl.ext s3.ext).ext s5.ext, by
        rw [heq]
        simp only [Res.bind]
        cases lcGo (lcStep ftg ft fe env) (List.drop (i + 1) ds) st4 <;> simp⟩
    · cases hst
theorem re_lc {ifs : List Expr} {scope : Scope} {own : List (Str × Nat)} {slots : List Nat} {fi : DenL} {ftg : D → Envi → Option Envi} {ft : DenB} {fe : Den} (hi : RI c X Wx tg iter fi) (ok : BlkOk X.N X.env.scope scope own) (hsl : ∀ j, j ∈ slots ↔ j ∈ own.map (·.2))
    (hg : ∀ (s : Shared) (H : Hp) (C : Addr) (cl : List (Str × Addr)) (fp : List Addr), RG c (X.blk s H scope (compEnvC scope cl C X.env) fp) tg slots ftg)
    (ht : ∀ (s : Shared) (H : Hp) (C : Addr) (cl : List (Str × Addr)) (fp : List Addr), RTs c (X.blk s H scope (compEnvC scope cl C X.env) fp) WxF ifs ft)
    (he : ∀ (s : Shared) (H : Hp) (C : Addr) (cl : List (Str × Addr)) (fp : List Addr), RE c (X.blk s H scope (compEnvC scope cl C X.env) fp) WxF elt fe)
    (hs : ∀ x, foldedSetIterable iter X.env x = pure x := by intro _; rfl) (hc : X.calm = true := by rfl) : RE c X Wx (.ListComp elt [⟨tg, iter, ifs, 0⟩] scope pos) (eLc fi ftg ft fe) := ⟨fun am tk => by
  obtain ⟨wi, pi, vi⟩ := hi.ex am tk
  exact ⟨_, pe_lc hc am.nd pi ok (fun s H C cl fp => (hg s H C cl fp).ex (am.blk ..)) (fun s H C cl fp => (ht s H C cl fp).ex (am.blk ..) takesN0) (fun s H C cl fp => (he s H C cl fp).pe (am.blk ..) takesN0) hs, val_lc hsl vi⟩⟩
end
end DL

/-! DL: statements. -/
namespace DL
open PySem PySem.Spec PyProof.Rows L2

inductive Out where
  | nx (env : Envi) (st : Stor) | rt (w : W) (st : Stor) | bk (env : Envi) (st : Stor) | ct (env : Envi) (st : Stor) | er (x : Exn) (env : Envi) (st : Stor) | no
abbrev DenS := Envi → Stor → Out
/-- what an end asks of what follows -/
def PostS (g : G) (m : Mm) (Wx : WX) (st : Stor) (H : Hp) (o : Out) (D : Ends) : Prop := match o with
  | .nx env' st' => ∀ σ' m' H', Step g m st H m' st' H' → EnvR g m' st' H' σ' env' → D.nx σ' H'
  | .bk env' st' => ∀ σ' m' H', Step g m st H m' st' H' → EnvR g m' st' H' σ' env' → D.bk σ' H'
  | .ct env' st' => ∀ σ' m' H', Step g m st H m' st' H' → EnvR g m' st' H' σ' env' → D.ct σ' H'
  | .rt w st' => ∀ v m' H', Step g m st H m' st' H' → RelW g m' st' H H' v w → D.rt v H'
  | .er x env' st' => ∀ c d σ' m' H', Step g m st H m' st' H' → EnvR g m' st' H' σ' env' → ExnR g m' st' H' c d x → Wx c d σ' H'
  | .no => False
theorem PostS.moved {g : G} {m Wx st H m1 st1 H1 D} {o : Out} (s : Step g m st H m1 st1 H1) (h : PostS g m Wx st H o D) : PostS g m1 Wx st1 H1 o D := by
  cases o with
  | no => exact h
  | nx e t => exact fun σ' m' H' s' E => h σ' m' H' (s.trans s') E
  | bk e t => exact fun σ' m' H' s' E => h σ' m' H' (s.trans s') E
  | ct e t => exact fun σ' m' H' s' E => h σ' m' H' (s.trans s') E
  | rt w t => exact fun v m' H' s' r => h v m' H' (s.trans s') (back_w (g := g) (m := m') _ _ _ _ _ _ (fun x z => s.ext.none z) r)
  | er x e t => exact fun c d σ' m' H' s' E r => h c d σ' m' H' (s.trans s') E r
structure AmbS (c : Cf) (X : Cx) (Wx : WX) : Prop where
  am : Amb c X
  tk : L2N.Takes X Wx
  po : PassesOwn (model X.prog X.w) X.A X.env X.xe
  hs : X.stack = X.env :: X.outer
  hf : X.env.frame = some X.env.locals
def ValS (g : G) (Wx : WX) (t : TS) (f : DenS) : Prop := ∀ σ H env m st D, EnvR g m st H σ env → Wd g m st H → PostS g m Wx st H (f env st) D → t D σ H
structure RS (c : Cf) (X : Cx) (Wx : WX) (s : Stmt) (f : DenS) : Prop where
  ex : AmbS c X Wx → ∃ t, PS X s t ∧ ValS c.g Wx t f
structure RSs (c : Cf) (X : Cx) (Wx : WX) (s : List Stmt) (f : DenS) : Prop where
  ex : AmbS c X Wx → ∃ t, PSs X s t ∧ ValS c.g Wx t f

/-- an expression's result, then -/
def Res.then {α : Type} (r : Res α) (env : Envi) (k : α → Stor → Out) : Out := match r with
  | .ok a st => k a st
  | .err x st => .er x env st
  | .no => .no
theorem PostS.bind {α β : Type} {g : G} {m Wx st H σ env} {RA : Stor → Hp → Hp → β → α → Prop} {r : Res α} {k : α → Stor → Out} {D : Ends} {Q : β → Hp → Prop} (E : EnvR g m st H σ env) (h : PostS g m Wx st H (r.then env k) D)
    (hk : ∀ a st' b H', r = .ok a st' → Step g m st H m st' H' → RA st' H H' b a → PostS g m Wx st' H' (k a st') D → Q b H') : Post g m σ Wx st H RA r Q := by
  cases r with
  | no => exact h
  | err x st' => exact fun c d H' s e => h c d σ m H' s (E.ext s.ext s.pre) e
  | ok a st' => exact fun b H' s ra => hk a st' b H' rfl s ra (h.moved s)
theorem PostS.bind0 {α β : Type} {g : G} {m Wx st H σ env} {RA : Stor → Hp → Hp → β → α → Prop} {r : Res α} {k : α → Stor → Out} {D : Ends} {Q : β → Hp → Prop} (E : EnvR g m st H σ env) (h : PostS g m Wx st H (r.then env k) D)
    (hk : ∀ a st' b H', r = .ok a st' → Step g m st H m st' H' → RA st' H H' b a → PostS g m Wx st H (k a st') D → Q b H') : Post g m σ Wx st H RA r Q := by
  cases r with
  | no => exact h
  | err x st' => exact fun c d H' s e => h c d σ m H' s (E.ext s.ext s.pre) e
  | ok a st' => exact fun b H' s ra => hk a st' b H' rfl s ra h
section
variable {c : Cf} {X : Cx} {Wx : WX} {pos : Pos} {e : Expr} {f : Den}
@[simp] def sNext : DenS := fun env st => .nx env st
def sSeq (f k : DenS) : DenS := fun env st => match f env st with
  | .nx env st => k env st
  | o => o
theorem rss_nil : RSs c X Wx [] sNext := ⟨fun _ => ⟨_, pss_nil, fun σ H env m st D E w h => h σ m H (.refl w) E⟩⟩
theorem vals_seq {g : G} {t u : TS} {f k : DenS} (v1 : ValS g Wx t f) (v2 : ValS g Wx u k) : ValS g Wx (tSeq t u) (sSeq f k) := fun σ H env m st D E w h => by
  refine v1 σ H env m st _ E w ?_
  unfold sSeq at h
  cases z : f env st with
  | nx env1 st1 =>
    rw [z] at h
    exact fun σ' m' H' s E' => v2 σ' H' env1 m' st1 D E' s.wd (h.moved s)
  | no => rw [z] at h; exact h
  | bk e t => rw [z] at h; exact h
  | ct e t => rw [z] at h; exact h
  | rt w t => rw [z] at h; exact h
  | er x e t => rw [z] at h; exact h
theorem rss_cons {s : Stmt} {r : List Stmt} {f k : DenS} (h1 : RS c X Wx s f) (h2 : RSs c X Wx r k) : RSs c X Wx (s :: r) (sSeq f k) := ⟨fun am => by
  obtain ⟨t1, p1, v1⟩ := h1.ex am
  obtain ⟨t2, p2, v2⟩ := h2.ex am
  exact ⟨_, pss_cons p1 p2, vals_seq v1 v2⟩⟩
theorem rss_one {s : Stmt} {f : DenS} (h1 : RS c X Wx s f) : RSs c X Wx [s] f := ⟨fun am => by
  obtain ⟨t1, p1, v1⟩ := h1.ex am
  exact ⟨_, pss_one p1, v1⟩⟩
@[simp] def sBreak : DenS := fun env st => .bk env st
@[simp] def sCont : DenS := fun env st => .ct env st
theorem rs_pass : RS c X Wx (.Pass pos) sNext := ⟨fun _ => ⟨_, ps_pass, fun σ H env m st D E w h => h σ m H (.refl w) E⟩⟩
theorem rs_break : RS c X Wx (.Break pos) sBreak := ⟨fun _ => ⟨_, ps_break, fun σ H env m st D E w h => h σ m H (.refl w) E⟩⟩
theorem rs_continue : RS c X Wx (.Continue pos) sCont := ⟨fun _ => ⟨_, ps_continue, fun σ H env m st D E w h => h σ m H (.refl w) E⟩⟩
@[simp] def sExpr (f : Den) : DenS := fun env st => (f env st).then env fun _ st => .nx env st
theorem rs_expr (he : RE c X Wx e f) (hs : swapsWith e none pos.line X.env = pure false := by rfl) : RS c X Wx (.Expr e pos) (sExpr f) := ⟨fun am => by
  obtain ⟨t1, p1, v1⟩ := he.ex am.am am.tk
  exact ⟨_, ps_expr p1 hs, fun σ H env m st D E w h => v1 σ H env m st _ E w (h.bind E fun a st' b H' _ s r h => h σ m H' (.refl s.wd) (E.ext s.ext s.pre))⟩⟩
@[simp] def sRet (f : Den) : DenS := fun env st => (f env st).then env fun w st => .rt w st
theorem rs_ret (he : RE c X Wx e f) : RS c X Wx (.Return (some e) pos) (sRet f) := ⟨fun am => by
  obtain ⟨t1, p1, v1⟩ := he.ex am.am am.tk
  refine ⟨_, ps_ret p1, fun σ H env m st D E w h => v1 σ H env m st _ E w ?_⟩
  unfold sRet at h
  cases z : f env st with
  | no => rw [z] at h; exact h
  | err x st' => rw [z] at h; exact fun c d H' s e => h c d σ m H' s (E.ext s.ext s.pre) e
  | ok a st' => rw [z] at h; exact fun b H' s ra => h b m H' s ra⟩
@[simp] def sRetN : DenS := fun _ st => .rt (.d .non) st
theorem rs_retN : RS c X Wx (.Return none pos) sRetN := ⟨fun _ => ⟨_, ps_retN, fun σ H env m st D E w h => h .non m H (.refl w) (show Rel _ _ _ _ _ _ from .non)⟩⟩
@[simp] def sIf (t : DenB) (f k : DenS) : DenS := fun env st => (t env st).then env fun b st => if b then f env st else k env st
theorem rs_if {cc : Expr} {a b : List Stmt} {ft : DenB} {fa fb : DenS} (hc : RT c X Wx cc ft) (ha : RSs c X Wx a fa) (hb : RSs c X Wx b fb) : RS c X Wx (.If cc a b pos) (sIf ft fa fb) := ⟨fun am => by
  obtain ⟨t0, p0, v0⟩ := hc.ex am.am am.tk
  obtain ⟨t1, p1, v1⟩ := ha.ex am
  obtain ⟨t2, p2, v2⟩ := hb.ex am
  refine ⟨_, ps_if p0 p1 p2, fun σ H env m st D E w h => v0 σ H env m st _ E w (h.bind (RA := RB_) E fun k st' k' H' _ s r h => ?_)⟩
  cases (show k' = k from r)
  have E' := E.ext s.ext s.pre
  cases k with
  | true => rw [if_pos rfl]; exact v1 σ H' env m st' D E' s.wd h
  | false => rw [if_neg Bool.false_ne_true]; exact v2 σ H' env m st' D E' s.wd h⟩

/-! ### assignments to names -/
theorem EnvR.set {g : G} {m st H σ env i v s} (E : EnvR g m st H σ env) (hi : i < env.length) (r : RelS g m st H v s) : EnvR g m st H (σ.set i (some v)) (env.set i (some s)) := ((E.x [i]).set hi r).nil
@[simp] def sSet (i : Nat) (f : Den) : DenS := fun env st => (f env st).then env fun w st => match setE env i w.sv with
  | some env => .nx env st
  | none => .no
theorem vals_set {g : G} {i : Nat} {te : TE} (v : Val g Wx te f) : ValS g Wx (tAsg te (gName i)) (sSet i f) := fun σ H env m st D E w h => v σ H env m st _ E w (h.bind E fun a st' b H' _ s r h => by
  cases z : setE env i a.sv with
  | none => rw [z] at h; exact h.elim
  | some env1 =>
    rw [z] at h
    obtain ⟨hi, rfl⟩ := setE_some z
    exact h _ m H' (.refl s.wd) ((E.ext s.ext s.pre).set hi r.sv))
section
variable {i : Nat} {x : Str} {pos' : Pos}
theorem rs_set (he : RE c X Wx e f) (hi : X.N[i]? = some x := by rfl) (hx : Loc X.env.scope x := by first | exact Or.inl rfl | exact Or.inr rfl) (hs : swapsWith e (some (.Name x pos')) pos.line X.env = pure false := by rfl) (hf : X.fn x = true ∨ X.env.scope.names.lookup x = some .local := by first | exact .inl rfl | exact .inr rfl) :
    RS c X Wx (.Assign [.Name x pos'] e pos) (sSet i f) := ⟨fun am => by
  obtain ⟨t1, p1, v1⟩ := he.ex am.am am.tk
  exact ⟨_, ps_set am.am.nd hi hx p1 hs hf, vals_set v1⟩⟩
/-- the same, the new list becoming a cell -/
@[simp] def sSetM (i : Nat) (f : Den) : DenS := fun env st => (f env st).then env fun w st => match w with
  | .n l => match setE env i (.r st.length) with
    | some env => .nx env (st ++ [.lst l])
    | none => .no
  | _ => .no
theorem mu_push {m : Mm} {st : Stor} {a p : Addr} {cc : Cell} (hl : m.ad.length = st.length) (h : Mu ⟨m.ad ++ [p], m.hid⟩ (st ++ [cc]) a) : Mu m st a ∨ a = p := by
  rcases h with ⟨j, c', h1, h2, h3⟩ | h
  · rcases Nat.lt_or_ge j m.ad.length with hj | hj
    · rw [List.getElem?_append_left hj] at h1
      rw [List.getElem?_append_left (by omega)] at h2
      exact .inl (.inl ⟨j, c', h1, h2, h3⟩)
    · have hj2 : j = m.ad.length := by
        have := (List.getElem?_eq_some_iff.mp h1).1
        rw [List.length_append, List.length_singleton] at this
        omega
      subst hj2
      simp at h1
      exact .inr h1.symm
  · exact .inl (.inr h)
/-- what holds with the list hidden, holds with it a cell -/
theorem ext_cell {g : G} {m : Mm} {st : Stor} {H : Hp} {p : Addr} {l : List D} (hl : m.ad.length = st.length) : Ext (m.hide p) st H ⟨m.ad ++ [p], m.hid⟩ (st ++ [.lst l]) H :=
  ⟨fun a o h n k => ⟨h, fun z => k (mu_hide.mpr ((mu_push hl z).symm))⟩, fun _ h => h⟩
theorem step_alloc {g : G} {m : Mm} {st : Stor} {H : Hp} {H0 : Hp} {p : Addr} {xs : List V} {l : List D} (wd : Wd g m st H) (hp : H p = some (.lst xs)) (r : RelL g (m.hide p) st H xs l) (h0 : H0 p = none) (w : Wd g (m.hide p) st H) {st0 : Stor} (s : Step g m st0 H0 m st H) (w0 : Wd g m st0 H0) :
    Step g m st0 H0 ⟨m.ad ++ [p], m.hid⟩ (st ++ [.lst l]) H := by
  have hpa : p ∉ m.ad := fun hm => w0.there p hm h0
  have e := ext_cell (g := g) (m := m) (st := st) (H := H) (p := p) (l := l) wd.len
  refine ⟨⟨by show (m.ad ++ [p]).length = (st ++ [Cell.lst l]).length; rw [List.length_append, List.length_append, wd.len]; rfl, ?_, fun a ha => ?_, wd.hids, fun a ha hm => ?_, fun i a c h1 h2 => ?_, wd.tabs⟩, ⟨fun a o h n k => ?_, s.ext.some⟩, ⟨⟨[p], rfl⟩, rfl⟩, s.hid⟩
  · show (m.ad ++ [p]).Nodup
    rw [List.nodup_append]
    exact ⟨wd.nd, by simp, fun a ha b hb => by
      rw [List.mem_singleton] at hb
      subst hb
      exact fun z => hpa (z ▸ ha)⟩
  · rcases List.mem_append.mp ha with z | z
    · exact wd.there a z
    · rw [List.mem_singleton] at z
      rw [z, hp]
      exact fun z => nomatch z
  · rcases List.mem_append.mp ha with z | z
    · exact wd.dj a z hm
    · rw [List.mem_singleton] at z
      exact w0.hn hm (by rw [z]; exact h0)
  · have h1 : (m.ad ++ [p])[i]? = some a := h1
    rcases Nat.lt_or_ge i m.ad.length with hi | hi
    · rw [List.getElem?_append_left hi] at h1
      rw [List.getElem?_append_left (by rw [← wd.len]; exact hi)] at h2
      exact cell_ext e rfl (w.cells i a c h1 h2)
    · have hi2 : i = m.ad.length := by
        have := (List.getElem?_eq_some_iff.mp h1).1
        rw [List.length_append, List.length_singleton] at this
        omega
      subst hi2
      rw [wd.len] at h2
      simp at h1 h2
      subst h1 h2
      exact ⟨xs, hp, r.ext e⟩
  · obtain ⟨h1, k1⟩ := s.ext.keep a o h n k
    exact ⟨h1, fun z => (mu_push wd.len z).elim k1 (fun z => ne_of_none h h0 z)⟩
theorem vals_setM {g : G} {i : Nat} {te : TE} (v : Val g Wx te f) : ValS g Wx (tAsg te (gName i)) (sSetM i f) := fun σ H env m st D E w h => v σ H env m st _ E w (h.bind0 E fun a st' b H' _ s r h => by
  cases a with
  | d x => exact h.elim
  | r j => exact h.elim
  | n l =>
    obtain ⟨p, xs, rfl, h1, h2, h3, h4, h5⟩ := r
    have h : PostS g m Wx st H (match setE env i (.r st'.length) with | some env => .nx env (st' ++ [.lst l]) | none => .no) D := h
    cases z : setE env i (.r st'.length) with
    | none => rw [z] at h; exact h.elim
    | some env1 =>
      rw [z] at h
      obtain ⟨hi, rfl⟩ := setE_some z
      have sa := step_alloc s.wd h1 h2 h4 h5 s w
      refine h _ _ H' sa ((E.ext sa.ext sa.pre).set hi ⟨p, rfl, ?_⟩)
      show (m.ad ++ [p])[st'.length]? = some p
      rw [← s.wd.len]
      simp)
theorem rs_setM (he : RE c X Wx e f) (hi : X.N[i]? = some x := by rfl) (hx : Loc X.env.scope x := by first | exact Or.inl rfl | exact Or.inr rfl) (hs : swapsWith e (some (.Name x pos')) pos.line X.env = pure false := by rfl) (hf : X.fn x = true ∨ X.env.scope.names.lookup x = some .local := by first | exact .inl rfl | exact .inr rfl) :
    RS c X Wx (.Assign [.Name x pos'] e pos) (sSetM i f) := ⟨fun am => by
  obtain ⟨t1, p1, v1⟩ := he.ex am.am am.tk
  exact ⟨_, ps_set am.am.nd hi hx p1 hs hf, vals_setM v1⟩⟩
end
section
variable {i : Nat} {y : Str} {py spos : Pos} {elt tg iter : Expr} {ifs : List Expr} {scope : Scope} {own : List (Str × Nat)} {slots : List Nat} {fi : DenL} {ftg : D → Envi → Option Envi} {ft : DenB} {fe : Den}
theorem ps_lc (am : AmbS c X Wx) (hi : RI c X Wx tg iter fi) (ok : BlkOk X.N X.env.scope scope own) (hsl : ∀ j, j ∈ slots ↔ j ∈ own.map (·.2))
    (hg : ∀ (s : Shared) (H : Hp) (C : Addr) (cl : List (Str × Addr)) (fp : List Addr), RG c (X.blk s H scope (compEnvC scope cl C X.env) fp) tg slots ftg)
    (ht : ∀ (s : Shared) (H : Hp) (C : Addr) (cl : List (Str × Addr)) (fp : List Addr), RTs c (X.blk s H scope (compEnvC scope cl C X.env) fp) WxF ifs ft)
    (he : ∀ (s : Shared) (H : Hp) (C : Addr) (cl : List (Str × Addr)) (fp : List Addr), RE c (X.blk s H scope (compEnvC scope cl C X.env) fp) WxF elt fe)
    (hy : X.N[i]? = some y) (hyl : X.env.scope.names.lookup y = some .local) (hsw : swapsWith (.ListComp elt [⟨tg, iter, ifs, 0⟩] scope pos) (some (.Name y py)) spos.line X.env = pure true) (hs : ∀ x, foldedSetIterable iter X.env x = pure x) (hc : X.calm = true) :
    ∃ wi : TI, PS X (.Assign [.Name y py] (.ListComp elt [⟨tg, iter, ifs, 0⟩] scope pos) spos) (tAsg (tLc wi (gOf c.g slots ftg) (tOfB c.g WxF ft) (tOf c.g WxF fe) (own.map (·.2))) (gName i)) ∧
      Val c.g Wx (tLc wi (gOf c.g slots ftg) (tOfB c.g WxF ft) (tOf c.g WxF fe) (own.map (·.2))) (eLc fi ftg ft fe) := by
  obtain ⟨wi, pi, vi⟩ := hi.ex am.am am.tk
  exact ⟨wi, ps_setLc hc am.am.nd hy hyl hsw pi ok (fun s H C cl fp => (hg s H C cl fp).ex (am.am.blk ..)) (fun s H C cl fp => (ht s H C cl fp).ex (am.am.blk ..) takesN0) (fun s H C cl fp => (he s H C cl fp).pe (am.am.blk ..) takesN0) hs, val_lc hsl vi⟩
theorem rs_setLc (hi : RI c X Wx tg iter fi) (ok : BlkOk X.N X.env.scope scope own) (hsl : ∀ j, j ∈ slots ↔ j ∈ own.map (·.2))
    (hg : ∀ (s : Shared) (H : Hp) (C : Addr) (cl : List (Str × Addr)) (fp : List Addr), RG c (X.blk s H scope (compEnvC scope cl C X.env) fp) tg slots ftg)
    (ht : ∀ (s : Shared) (H : Hp) (C : Addr) (cl : List (Str × Addr)) (fp : List Addr), RTs c (X.blk s H scope (compEnvC scope cl C X.env) fp) WxF ifs ft)
    (he : ∀ (s : Shared) (H : Hp) (C : Addr) (cl : List (Str × Addr)) (fp : List Addr), RE c (X.blk s H scope (compEnvC scope cl C X.env) fp) WxF elt fe)
    (hy : X.N[i]? = some y := by rfl) (hyl : X.env.scope.names.lookup y = some .local := by rfl) (hsw : swapsWith (.ListComp elt [⟨tg, iter, ifs, 0⟩] scope pos) (some (.Name y py)) spos.line X.env = pure true := by exact sw_true rfl rfl rfl (by decide +kernel)) (hs : ∀ x, foldedSetIterable iter X.env x = pure x := by intro _; rfl) (hc : X.calm = true := by rfl) :
    RS c X Wx (.Assign [.Name y py] (.ListComp elt [⟨tg, iter, ifs, 0⟩] scope pos) spos) (sSet i (eLc fi ftg ft fe)) := ⟨fun am => by
  obtain ⟨wi, p, v⟩ := ps_lc am hi ok hsl hg ht he hy hyl hsw hs hc
  exact ⟨_, p, vals_set v⟩⟩
theorem rs_setLcM (hi : RI c X Wx tg iter fi) (ok : BlkOk X.N X.env.scope scope own) (hsl : ∀ j, j ∈ slots ↔ j ∈ own.map (·.2))
    (hg : ∀ (s : Shared) (H : Hp) (C : Addr) (cl : List (Str × Addr)) (fp : List Addr), RG c (X.blk s H scope (compEnvC scope cl C X.env) fp) tg slots ftg)
    (ht : ∀ (s : Shared) (H : Hp) (C : Addr) (cl : List (Str × Addr)) (fp : List Addr), RTs c (X.blk s H scope (compEnvC scope cl C X.env) fp) WxF ifs ft)
    (he : ∀ (s : Shared) (H : Hp) (C : Addr) (cl : List (Str × Addr)) (fp : List Addr), RE c (X.blk s H scope (compEnvC scope cl C X.env) fp) WxF elt fe)
    (hy : X.N[i]? = some y := by rfl) (hyl : X.env.scope.names.lookup y = some .local := by rfl) (hsw : swapsWith (.ListComp elt [⟨tg, iter, ifs, 0⟩] scope pos) (some (.Name y py)) spos.line X.env = pure true := by exact sw_true rfl rfl rfl (by decide +kernel)) (hs : ∀ x, foldedSetIterable iter X.env x = pure x := by intro _; rfl) (hc : X.calm = true := by rfl) :
    RS c X Wx (.Assign [.Name y py] (.ListComp elt [⟨tg, iter, ifs, 0⟩] scope pos) spos) (sSetM i (eLc fi ftg ft fe)) := ⟨fun am => by
  obtain ⟨wi, p, v⟩ := ps_lc am hi ok hsl hg ht he hy hyl hsw hs hc
  exact ⟨_, p, vals_setM v⟩⟩
end

/-! ### a, b = .. -/
/-- unpacking of a tuple; a list of targets -/
@[simp] def sUnp (f : Den) (t : D → Envi → Option Envi) : DenS := fun env st => (f env st).then env fun w st => match w.toD.bind fun d => t d env with
  | some env => .nx env st
  | none => .no
theorem rs_unp {tg : Expr} {slots : List Nat} {t : D → Envi → Option Envi} (he : RE c X Wx e f) (hg : RG c X tg slots t) (hs : swapsWithSole [tg] e pos.line X.env = pure false := by rfl) (hw : swappedStores [tg] e X.env = pure none := by rfl)
    (h1 : (assignEach [tg] X.env).map (·.2) = [assign tg X.env] := by rfl) : RS c X Wx (.Assign [tg] e pos) (sUnp f t) := ⟨fun am => by
  obtain ⟨t1, p1, v1⟩ := he.ex am.am am.tk
  refine ⟨_, ps_asg p1 (hg.ex am.am) hs hw h1, fun σ H env m st D E w h => v1 σ H env m st _ E w (h.bind E fun a st' b H' _ s r h => ?_)⟩
  cases z : a.toD with
  | none => rw [z] at h; exact h.elim
  | some d =>
    rw [z] at h
    simp only [Option.bind_some] at h
    cases z2 : t d env with
    | none => rw [z2] at h; exact h.elim
    | some env1 =>
      rw [z2] at h
      exact ⟨d, env, env1, m, st', (E.ext s.ext s.pre).x slots, r.toD z, z2, fun σ' E' _ _ => h σ' m H' (.refl s.wd) E'⟩⟩
end
end DL

/-! DL: loops; cells written. -/
namespace DL
open PySem PySem.Spec PyProof.Rows L2

/-! ### for -/
def forGo (tg : D → Envi → Option Envi) (body : DenS) : List D → Envi → Stor → Out
  | [], env, st => .nx env st
  | d :: r, env, st => match tg d env with
    | none => .no
    | some env1 => match body env1 st with
      | .nx env2 st2 => forGo tg body r env2 st2
      | .ct env2 st2 => forGo tg body r env2 st2
      | .bk env2 st2 => .nx env2 st2
      | o => o
@[simp] def sFor (fi : DenL) (tg : D → Envi → Option Envi) (body : DenS) : DenS := fun env st => (fi env st).then env fun ds st => forGo tg body ds env st
/-- the ends of a body in a loop -/
def loopO (k : Envi → Stor → Out) : Out → Out
  | .nx env2 st2 => k env2 st2
  | .ct env2 st2 => k env2 st2
  | .bk env2 st2 => .nx env2 st2
  | o => o
theorem forGo_cons {tg : D → Envi → Option Envi} {body : DenS} {d : D} {r : List D} {env env1 : Envi} {st : Stor} (h : tg d env = some env1) : forGo tg body (d :: r) env st = loopO (forGo tg body r) (body env1 st) := by
  rw [forGo, h]
  dsimp only
  cases body env1 st <;> rfl
section
variable {c : Cf} {X : Cx} {Wx : WX} {pos : Pos} {e : Expr} {f : Den} {fk : DenS}
/-- a body's ends -/
theorem PostS.loop {g : G} {m st H D} {k : Envi → Stor → Out} {o : Out} {N : L2.St → Hp → Prop} (h : PostS g m Wx st H (loopO k o) D)
    (hN : ∀ env2 st2 σ' m' H', Step g m st H m' st2 H' → EnvR g m' st2 H' σ' env2 → loopO k o = k env2 st2 → N σ' H') : PostS g m Wx st H o { D with nx := N, ct := N, bk := D.nx } := by
  cases o with
  | no => exact h
  | nx e t => exact fun σ' m' H' s E => hN e t σ' m' H' s E rfl
  | ct e t => exact fun σ' m' H' s E => hN e t σ' m' H' s E rfl
  | bk e t => exact h
  | rt w t => exact h
  | er x e t => exact h
theorem rs_for {iter tg : Expr} {body : List Stmt} {fi : DenL} {slots : List Nat} {ft : D → Envi → Option Envi} {fb : DenS} (hi : RI c X Wx tg iter fi) (hg : RG c X tg slots ft) (hb : RSs c X Wx body fb) (hs : ∀ x, foldedSetIterable iter X.env x = pure x := by intro _; rfl) (hc : X.calm = true := by rfl) :
    RS c X Wx (.For tg iter body [] pos) (sFor fi ft fb) := ⟨fun am => by
  obtain ⟨wi, pi, vi⟩ := hi.ex am.am am.tk
  obtain ⟨tb, pb, vb⟩ := hb.ex am
  refine ⟨_, ps_for am.po hc pi (hg.ex am.am) pb hs, fun σ H env m st D E w h => ?_⟩
  refine vi σ H env m st _ E w (h.bind (RA := RI_ c.g m) E fun ds st1 J H1 _ s1 hJ h => ?_)
  have E1 := E.ext s1.ext s1.pre
  refine ⟨fun i n σ2 H2 => ∃ env2 m2 st2, n = ds.length - i ∧ i ≤ ds.length ∧ Step c.g m st1 H1 m2 st2 H2 ∧ EnvR c.g m2 st2 H2 σ2 env2 ∧ forGo ft fb ds env st1 = forGo ft fb (ds.drop i) env2 st2,
    ⟨ds.length, env, m, st1, by simp, Nat.zero_le _, .refl s1.wd, E1, by rw [List.drop_zero]⟩, ?_⟩
  rintro i n σ2 H2 ⟨env2, m2, st2, rfl, hile, s2, E2, heq⟩
  obtain ⟨hgo, hstop⟩ := hJ m2 st2 H2 s2.p i
  rcases Nat.lt_or_ge i ds.length with hlt | hge
  case inr =>
    refine .inl ⟨hstop hge, ?_⟩
    rw [List.drop_eq_nil_of_le hge] at heq
    rw [heq] at h
    exact h σ2 m2 H2 s2 E2
  obtain ⟨go, hy⟩ := hgo _ (List.getElem?_eq_getElem hlt)
  refine .inr ⟨go, fun σ3 H3 => ∃ env3 m3 st3, Step c.g m st1 H1 m3 st3 H3 ∧ EnvR c.g m3 st3 H3 σ3 env3 ∧ forGo ft fb ds env st1 = forGo ft fb (ds.drop (i + 1)) env3 st3, ?_, ?_⟩
  · rintro σ3 H3 ⟨env3, m3, st3, h1, h2, h3⟩
    exact ⟨ds.length - (i + 1), by omega, env3, m3, st3, rfl, hlt, h1, h2, h3⟩
  intro x H3 yl
  obtain ⟨s3, r3⟩ := hy x H3 yl
  have s23 := s2.trans s3
  rw [List.drop_eq_getElem_cons hlt] at heq
  cases htg : ft ds[i] env2 with
  | none =>
    rw [forGo, htg] at heq
    rw [heq] at h
    exact h.elim
  | some env3 =>
    rw [forGo_cons htg] at heq
    refine ⟨ds[i], env2, env3, m2, st2, (E2.ext s3.ext s3.pre).x slots, r3, htg, fun σ4 E4 _ _ => ?_⟩
    refine vb σ4 H3 env3 m2 st2 _ E4 s23.wd ?_
    rw [heq] at h
    refine PostS.loop (h.moved s23) fun env5 st5 σ5 m5 H5 s5 E5 e5 => ?_
    exact ⟨env5, m5, st5, s23.trans s5, E5, heq.trans e5⟩⟩

/-! ### while -/
def whileGo (t : DenB) (body : DenS) : Nat → Envi → Stor → Out
  | 0, _, _ => .no
  | n + 1, env, st => (t env st).then env fun b st => if b then loopO (whileGo t body n) (body env st) else .nx env st
@[simp] def sWhile (n : Nat) (t : DenB) (body : DenS) : DenS := fun env st => whileGo t body n env st
theorem rs_while {cc : Expr} {body : List Stmt} {ft : DenB} {fb : DenS} (n : Nat) (hc : RT c X Wx cc ft) (hb : RSs c X Wx body fb) : RS c X Wx (.While cc body [] pos) (sWhile n ft fb) := ⟨fun am => by
  obtain ⟨tc, pc, vc⟩ := hc.ex am.am am.tk
  obtain ⟨tb, pb, vb⟩ := hb.ex am
  refine ⟨_, ps_while am.po pc pb, fun σ H env m st D E w h => ?_⟩
  refine ⟨fun k σ2 H2 => ∃ env2 m2 st2, Step c.g m st H m2 st2 H2 ∧ EnvR c.g m2 st2 H2 σ2 env2 ∧ whileGo ft fb n env st = whileGo ft fb k env2 st2, ⟨n, env, m, st, .refl w, E, rfl⟩, ?_⟩
  rintro k σ2 H2 ⟨env2, m2, st2, s2, E2, heq⟩
  have h : PostS c.g m Wx st H (whileGo ft fb n env st) D := h
  rw [heq] at h
  cases k with
  | zero => exact h.elim
  | succ k =>
    have h2 := h.moved s2
    rw [whileGo] at h2
    refine vc σ2 H2 env2 m2 st2 _ E2 s2.wd (h2.bind (RA := RB_) E2 fun b st3 b' H3 eb s3 r h3 => ?_)
    cases (show b' = b from r)
    have E3 := E2.ext s3.ext s3.pre
    cases b with
    | false => exact h3 σ2 m2 H3 (.refl s3.wd) E3
    | true =>
      rw [if_pos rfl]
      refine ⟨fun σ4 H4 => ∃ env4 m4 st4, Step c.g m st H m4 st4 H4 ∧ EnvR c.g m4 st4 H4 σ4 env4 ∧ whileGo ft fb n env st = whileGo ft fb k env4 st4, ?_, ?_⟩
      · rintro σ4 H4 ⟨env4, m4, st4, h1, h2, h3⟩
        exact ⟨k, Nat.lt_succ_self _, env4, m4, st4, h1, h2, h3⟩
      · refine vb σ2 H3 env2 m2 st3 _ E3 s3.wd (PostS.loop h3 fun env5 st5 σ5 m5 H5 s5 E5 e5 => ?_)
        refine ⟨env5, m5, st5, (s2.trans s3).trans s5, E5, ?_⟩
        rw [heq, whileGo, eb]
        exact e5⟩

/-! ### cells -/
theorem nodup_inj {α : Type} {l : List α} (h : l.Nodup) {i j : Nat} {a : α} (hi : l[i]? = some a) (hj : l[j]? = some a) : i = j :=
  (List.getElem?_inj (List.getElem?_eq_some_iff.mp hi).1 h).mp (hi.trans hj.symm)
theorem mu_set {m : Mm} {st : Stor} {a : Addr} {j : Nat} {c1 c2 : Cell} (h : st[j]? = some c1) (hl : c1.live = true) (h2 : c2.live = true) : Mu m (st.set j c2) a ↔ Mu m st a := by
  have hj := (List.getElem?_eq_some_iff.mp h).1
  constructor
  · rintro (⟨i, c, e1, e2, e3⟩ | e)
    · by_cases hi : j = i
      · subst hi
        exact .inl ⟨j, c1, e1, h, hl⟩
      · rw [List.getElem?_set_ne hi] at e2
        exact .inl ⟨i, c, e1, e2, e3⟩
    · exact .inr e
  · rintro (⟨i, c, e1, e2, e3⟩ | e)
    · by_cases hi : j = i
      · subst hi
        exact .inl ⟨j, c2, e1, List.getElem?_set_self hj, h2⟩
      · exact .inl ⟨i, c, e1, by rw [List.getElem?_set_ne hi]; exact e2, e3⟩
    · exact .inr e
/-- a list cell is written -/
theorem step_cell {g : G} {m : Mm} {st : Stor} {H : Hp} {j : Nat} {a : Addr} {l l' : List D} {vs vs' : List V} (w : Wd g m st H) (ha : m.ad[j]? = some a) (hs : st[j]? = some (.lst l)) (hH : H a = some (.lst vs)) (r : RelL g m st H vs' l') :
    Step g m st H m (st.set j (.lst l')) (upd H a (.lst vs')) := by
  have hj := (List.getElem?_eq_some_iff.mp hs).1
  have mu : ∀ b, Mu m (st.set j (.lst l')) b ↔ Mu m st b := fun b => mu_set hs rfl rfl
  have mua : Mu m st a := .inl ⟨j, _, ha, hs, rfl⟩
  have e : Ext m st H m (st.set j (.lst l')) (upd H a (.lst vs')) := ⟨fun b o h n k => ⟨by rw [upd_ne (fun z => k (by rw [z]; exact mua))]; exact h, fun z => k ((mu b).mp z)⟩, fun b k => by
    unfold upd
    split
    · exact fun z => nomatch z
    · exact k⟩
  refine ⟨⟨by rw [List.length_set]; exact w.len, w.nd, fun b hb => e.some b (w.there b hb), fun b hb => by rw [upd_ne (fun z => w.dj a (List.mem_of_getElem? ha) (by rw [← z]; exact hb))]; exact w.hids b hb, w.dj, fun i b c h1 h2 => ?_, ?_⟩, e, .refl _, fun b hb => upd_ne (fun z => w.dj a (List.mem_of_getElem? ha) (by rw [← z]; exact hb))⟩
  · by_cases hi : j = i
    · subst hi
      rw [List.getElem?_set_self hj] at h2
      cases h2
      rw [ha] at h1
      cases h1
      exact ⟨vs', upd_same, r.ext e⟩
    · rw [List.getElem?_set_ne hi] at h2
      have ne : b ≠ a := fun z => hi (nodup_inj w.nd ha (z ▸ h1))
      exact cell_ext e (upd_ne ne) (w.cells i b c h1 h2)
  · intro q hq
    obtain ⟨ps, t1, t2, t3⟩ := w.tabs q hq
    refine ⟨ps, by rw [upd_ne (fun z => by rw [z, hH] at t1; cases t1)]; exact t1, t2, fun pos cv hc => ?_⟩
    obtain ⟨cc, e1, e2⟩ := t3 pos cv hc
    exact ⟨cc, e1, by rw [upd_ne (fun z => by rw [z, hH] at e2; unfold LamX.CodeO at e2; cases e2)]; exact e2⟩
/-- x.append(e), x a cell -/
def cellL (st : Stor) (j : Nat) : Option (List D) := match st[j]? with
  | some (.lst l) => some l
  | _ => none
theorem cellL_some {st : Stor} {j : Nat} {l : List D} (h : cellL st j = some l) : st[j]? = some (.lst l) := by
  unfold cellL at h
  split at h
  · cases h
    assumption
  · cases h
def envR (env : Envi) (i : Nat) : Option Nat := match env[i]? with
  | some (some (.r j)) => some j
  | _ => none
theorem envR_some {env : Envi} {i j : Nat} (h : envR env i = some j) : env[i]? = some (some (.r j)) := by
  unfold envR at h
  split at h
  · cases h
    assumption
  · cases h
def sApp (i : Nat) (f : Den) : DenS := fun env st => match envR env i with
  | none => .no
  | some j => match cellL st j with
    | none => .no
    | some _ => (f env st).then env fun w st => match w.toD with
      | none => .no
      | some x => match cellL st j with
        | none => .no
        | some l => if decide (l.length < 16777216) then .nx env (st.set j (.lst (l ++ [x]))) else .no
theorem rs_app {i : Nat} {x : Str} {p1 p2 p3 : Pos} (he : RE c X Wx e f) (hN : X.N[i]? = some x := by rfl) (hv : Vis X.env.scope x := by first | exact Or.inl rfl | exact Or.inr (Or.inl rfl) | exact Or.inr (Or.inr rfl)) (hd : (x == ("__debug__" : Str)) = false := by decide)
    (hcd : (x == ("__classdict__" : Str)) = false := by decide)
    (hbase : attributeBase (.Name x p1) "append" X.env (eval (.Name x p1) X.env) = eval (.Name x p1) X.env := by rfl)
    (hfew : ((backTo p3 (starEach [e] X.env)).all (fun x => !x.1) && (backToKw p3 (keywordEach [] X.env)).all (fun x => x.1.isSome)
      && decide (([e] : List Expr).length + ([] : List Keyword).length + (if ([] : List Keyword).isEmpty then 0 else 1) < 30)) = true := by rfl)
    (hline : (p2.endLine == p3.line) = true := by rfl) (hs1 : starEach [e] X.env = (false, eval e X.env) :: starEach [] X.env := by rfl) (hplain : (backTo p3 (starEach [] X.env)).any (·.1) = false := by rfl)
    (hs : swapsWith (.Call (.Attribute (.Name x p1) "append" p2) [e] [] p3) none pos.line X.env = pure false := by rfl) :
    RS c X Wx (.Expr (.Call (.Attribute (.Name x p1) "append" p2) [e] [] p3) pos) (sApp i f) := ⟨fun am => by
  obtain ⟨t1, p1, v1⟩ := he.ex am.am am.tk
  refine ⟨_, ps_expr (pe_bm PySem.F.plainAttrs_list PySem.F.slot_list_append PySem.F.type_list_append mt_append (pe_var hN hv hd hcd) (pa_cons p1 pa_nil hs1) hbase hfew hline hs1 hplain) hs, fun σ H env m st D E w h => ?_⟩
  unfold sApp at h
  cases z : envR env i with
  | none => rw [z] at h; exact h.elim
  | some j =>
    rw [z] at h
    dsimp only at h
    obtain ⟨v, e1, a, rfl, ha⟩ := E.at_ i _ (envR_some z)
    cases z0 : cellL st j with
    | none => rw [z0] at h; exact h.elim
    | some l0 =>
      rw [z0] at h
      dsimp only at h
      obtain ⟨vs0, q1, q2⟩ := w.cells j a _ ha (cellL_some z0)
      refine ⟨.ref a, e1, .inl ⟨rfl, vs0, SqL.of q1⟩, v1 σ H env m st _ E w (h.bind (RA := RW_ c.g m) E fun w1 st1 y H1 _ s r h => ?_)⟩
      cases z1 : w1.toD with
      | none => rw [z1] at h; exact h.elim
      | some x1 =>
        rw [z1] at h
        dsimp only at h
        cases z2 : cellL st1 j with
        | none => rw [z2] at h; exact h.elim
        | some l =>
          rw [z2] at h
          dsimp only at h
          by_cases hz : decide (l.length < 16777216) = true
          case neg => rw [if_neg hz] at h; exact h.elim
          rw [if_pos hz] at h
          obtain ⟨vs, k1, k2⟩ := s.wd.cells j a _ ha (cellL_some z2)
          refine ⟨a, vs, y, rfl, rfl, k1, by rw [sizeLine_eq, k2.length]; exact of_decide_eq_true hz, ?_⟩
          have sc := step_cell s.wd ha (cellL_some z2) k1 (k2.append (.cons (r.toD z1) .nil))
          have E1 := E.ext s.ext s.pre
          exact h σ m _ sc (E1.ext sc.ext sc.pre)⟩
/-- x[e] = f, x a cell -/
def sSub (i : Nat) (fv fi : Den) : DenS := fun env st => (fv env st).then env fun w st => match envR env i with
  | none => .no
  | some j => (fi env st).then env fun wi st => match w.toD, wi.asI with
    | some x, some k => match cellL st j with
      | none => .no
      | some l => match ixN l.length k with
        | some q => .nx env (st.set j (.lst (l.set q x)))
        | none => .no
    | _, _ => .no
theorem rs_sub {i : Nat} {x : Str} {p1 p2 : Pos} {ei : Expr} {fi : Den} (he : RE c X Wx e f) (hi : RE c X Wx ei fi) (hN : X.N[i]? = some x := by rfl) (hv : Vis X.env.scope x := by first | exact Or.inl rfl | exact Or.inr (Or.inl rfl) | exact Or.inr (Or.inr rfl)) (hd : (x == ("__debug__" : Str)) = false := by decide)
    (hcd : (x == ("__classdict__" : Str)) = false := by decide) (hs : swapsWithSole [.Subscript (.Name x p1) ei p2] e pos.line X.env = pure false := by rfl) (hw : swappedStores [.Subscript (.Name x p1) ei p2] e X.env = pure none := by rfl)
    (h1 : (assignEach [.Subscript (.Name x p1) ei p2] X.env).map (·.2) = [assign (.Subscript (.Name x p1) ei p2) X.env] := by rfl)
    (hsub : ∀ v, assign (.Subscript (.Name x p1) ei p2) X.env v = (do
      let ov ← holding [v] (eval (.Name x p1) X.env)
      let iv ← holding [v, ov] (eval ei X.env)
      standAt p2
      holding [v, ov, iv] (setItem ov iv v)
      release [v, ov, iv] []) := by intro _; rfl) :
    RS c X Wx (.Assign [.Subscript (.Name x p1) ei p2] e pos) (sSub i f fi) := ⟨fun am => by
  obtain ⟨t1, p1, v1⟩ := he.ex am.am am.tk
  obtain ⟨t2, p2, v2⟩ := hi.ex am.am am.tk
  refine ⟨_, ps_asg p1 (pg_sub (pe_var hN hv hd hcd) p2 set_list hsub) hs hw h1, fun σ H env m st D E w h => ?_⟩
  unfold sSub at h
  refine v1 σ H env m st _ E w (h.bind (RA := RW_ c.g m) E fun w1 st1 y H1 _ s1 r1 h => ?_)
  have E1 := E.ext s1.ext s1.pre
  cases z : envR env i with
  | none => rw [z] at h; exact h.elim
  | some j =>
    rw [z] at h
    dsimp only at h
    obtain ⟨v, e1, a, rfl, ha⟩ := E1.at_ i _ (envR_some z)
    refine ⟨.ref a, e1, v2 σ H1 env m st1 _ E1 s1.wd (h.bind (RA := RW_ c.g m) E1 fun w2 st2 y2 H2 _ s2 r2 h => ?_)⟩
    cases z1 : w1.toD with
    | none => rw [z1] at h; exact h.elim
    | some x1 =>
      cases z3 : w2.asI with
      | none => rw [z1, z3] at h; exact h.elim
      | some k =>
        rw [z1, z3] at h
        dsimp only at h
        cases z2 : cellL st2 j with
        | none => rw [z2] at h; exact h.elim
        | some l =>
          rw [z2] at h
          dsimp only at h
          cases z4 : ixN l.length k with
          | none => rw [z4] at h; exact h.elim
          | some q =>
            rw [z4] at h
            obtain ⟨vs, k1, k2⟩ := s2.wd.cells j a _ ha (cellL_some z2)
            have sc := step_cell s2.wd ha (cellL_some z2) k1 (k2.set ((r1.toD z1).ext s2.ext) q)
            exact ⟨a, vs, k, q, rfl, r2.w0.asI z3, k1, by rw [k2.length]; exact z4, h σ m _ sc ((E1.ext s2.ext s2.pre).ext sc.ext sc.pre)⟩⟩

/-! ### a cell becomes pure data (no statement of the text) -/
def sFrz (i : Nat) : DenS := fun env st => match envR env i with
  | none => .nx env st
  | some j => match cellL st j with
    | none => .no
    | some l => .nx (env.set i (some (.d (.lst l)))) (st.set j .dead)
theorem step_dead {g : G} {m : Mm} {st : Stor} {H : Hp} {j : Nat} {a : Addr} {l : List D} (w : Wd g m st H) (ha : m.ad[j]? = some a) (hs : st[j]? = some (.lst l)) : Step g m st H m (st.set j .dead) H ∧ ¬ Mu m (st.set j .dead) a := by
  have hj := (List.getElem?_eq_some_iff.mp hs).1
  have mu : ∀ b, Mu m (st.set j .dead) b → Mu m st b := fun b h => by
    rcases h with ⟨i, c, e1, e2, e3⟩ | h
    · by_cases hi : j = i
      · subst hi
        rw [List.getElem?_set_self hj] at e2
        cases e2
        cases e3
      · rw [List.getElem?_set_ne hi] at e2
        exact .inl ⟨i, c, e1, e2, e3⟩
    · exact .inr h
  have e : Ext m st H m (st.set j .dead) H := ⟨fun b o h n k => ⟨h, fun z => k (mu b z)⟩, fun b k => k⟩
  refine ⟨⟨⟨by rw [List.length_set]; exact w.len, w.nd, w.there, w.hids, w.dj, fun i b c h1 h2 => ?_, w.tabs⟩, e, .refl _, fun b hb => rfl⟩, ?_⟩
  · by_cases hi : j = i
    · subst hi
      rw [List.getElem?_set_self hj] at h2
      cases h2
      trivial
    · rw [List.getElem?_set_ne hi] at h2
      exact cell_ext e rfl (w.cells i b c h1 h2)
  · rintro (⟨i, c, e1, e2, e3⟩ | h)
    · by_cases hi : j = i
      · subst hi
        rw [List.getElem?_set_self hj] at e2
        cases e2
        cases e3
      · exact hi (nodup_inj w.nd ha e1)
    · exact w.dj a (List.mem_of_getElem? ha) h
theorem rss_frz {i : Nat} {sts : List Stmt} (h : RSs c X Wx sts fk) : RSs c X Wx sts (sSeq (sFrz i) fk) := ⟨fun am => by
  obtain ⟨t, p, v⟩ := h.ex am
  refine ⟨t, p, fun σ H env m st D E w h => ?_⟩
  unfold sSeq sFrz at h
  cases z : envR env i with
  | none =>
    rw [z] at h
    exact v σ H env m st D E w h
  | some j =>
    rw [z] at h
    dsimp only at h
    cases z0 : cellL st j with
    | none => rw [z0] at h; exact h.elim
    | some l =>
      rw [z0] at h
      dsimp only at h
      obtain ⟨y, e1, a, rfl, ha⟩ := E.at_ i _ (envR_some z)
      obtain ⟨sd, nm⟩ := step_dead w ha (cellL_some z0)
      obtain ⟨vs, k1, k2⟩ := w.cells j a _ ha (cellL_some z0)
      have hi : i < env.length := (List.getElem?_eq_some_iff.mp (envR_some z)).1
      have E2 := (E.ext sd.ext sd.pre).set (v := .ref a) hi (show RelS c.g m _ H (.ref a) (.d (.lst l)) from .lst ⟨k1, nm⟩ (k2.ext sd.ext))
      have e2 : σ.set i (some (.ref a)) = σ := by
        apply List.ext_getElem?
        intro q
        by_cases hq : i = q
        · subst hq
          rw [List.getElem?_set_self (by rw [E.len]; exact hi)]
          exact e1.symm
        · rw [List.getElem?_set_ne hq]
      rw [e2] at E2
      exact v σ H _ m _ D E2 sd.wd (h.moved sd)⟩
end
end DL

/-! DL: raise; defs; the table of defs, run level by level. -/
namespace DL
open PySem PySem.Spec PyProof.Rows L2
section
variable {c : Cf} {X : Cx} {Wx : WX}
@[simp] def sRaise (i : Nat) : DenS := fun env st => .er ⟨i, none⟩ env st
theorem rs_raise {i j : Nat} {x msg : Str} {p p2 pos pos' : Pos} (hx : c.P.cl[i]? = some x) (hg : Gl X x := by rfl) (hdb : (x == ("__debug__" : Str)) = false := by decide) (hc : X.calm = true := by rfl) :
    RS c X Wx (.Raise (some (.Call (.Name x p) [.Constant (.str msg) j p2] [] pos)) none pos') (sRaise i) := ⟨fun am => by
  have ok := am.am.clok i x hx
  refine ⟨_, L2N.ps_raise hc am.tk (L2N.pmk_own PySem.F.excBase_ValueError ok.exc (am.am.cls i x (Prg.acl_of hx)) ok.kp (raises_own ok.sub ok.ty) hg hdb), fun σ H env m st D E w h => ?_⟩
  exact h _ none σ m H (.refl w) E ⟨rfl, rfl⟩⟩
end

/-! ### behind a def -/
def fin (n : Nat) : Out → Res W
  | .nx _ st => .ok (.d .non) (st.take n)
  | .rt (.r j) st => if j < n then .ok (.r j) (st.take n) else .no
  | .rt w st => .ok w (st.take n)
  | .er x _ st => .err x (st.take n)
  | _ => .no
section
variable {g : G} {m m' : Mm} {st' : Stor} {H : Hp}
theorem mu_take {n : Nat} {a : Addr} (p : Pre m m') (h : Mu m (st'.take n) a) : Mu m' st' a := by
  rcases h with ⟨i, c, h1, h2, h3⟩ | h
  · refine .inl ⟨i, c, p.pad.get h1, ?_, h3⟩
    have hi : i < n := by
      have := (List.getElem?_eq_some_iff.mp h2).1
      rw [List.length_take] at this
      omega
    rw [List.getElem?_take_of_lt hi] at h2
    exact h2
  · exact .inr (by rw [p.2]; exact h)
theorem ext_take {n : Nat} (p : Pre m m') : Ext m' st' H m (st'.take n) H := ⟨fun a o h k1 k => ⟨h, fun z => k (mu_take p z)⟩, fun _ h => h⟩
theorem wd_take {n : Nat} (p : Pre m m') (hn : m.ad.length = n) (w : Wd g m' st' H) : Wd g m (st'.take n) H := by
  obtain ⟨⟨l, hl⟩, hh⟩ := id p
  have hle : n ≤ st'.length := by
    rw [← w.len, hl, List.length_append, hn]
    exact Nat.le_add_right _ _
  refine ⟨by rw [List.length_take, hn]; omega, ?_, fun a ha => w.there a (by rw [hl]; exact List.mem_append_left _ ha), fun a ha => w.hids a (by rw [hh]; exact ha), fun a ha hm => w.dj a (by rw [hl]; exact List.mem_append_left _ ha) (by rw [hh]; exact hm), fun i a c h1 h2 => ?_, w.tabs⟩
  · have := w.nd
    rw [hl] at this
    exact (List.nodup_append.mp this).1
  · have hi : i < n := by
      have := (List.getElem?_eq_some_iff.mp h2).1
      rw [List.length_take] at this
      omega
    rw [List.getElem?_take_of_lt hi] at h2
    exact cell_ext (ext_take p) rfl (w.cells i a c (p.pad.get h1) h2)
theorem step_take {st0 : Stor} {H0 : Hp} (w0 : Wd g m st0 H0) (s : Step g m st0 H0 m' st' H) : Step g m st0 H0 m (st'.take st0.length) H :=
  ⟨wd_take s.pre w0.len s.wd, s.ext.trans (ext_take s.pre), .refl _, s.hid⟩
theorem pre_hide {a : Addr} (p : Pre m m') : Pre (m.hide a) (m'.hide a) := ⟨p.1, by show a :: m'.hid = a :: m.hid; rw [p.2]⟩
theorem relw_take {H0 : Hp} {v : V} {n : Nat} (p : Pre m m') (hn : m.ad.length = n) : ∀ {w : W}, (∀ j, w ≠ .r j) → RelW g m' st' H0 H v w → RelW g m (st'.take n) H0 H v w
  | .d x, _, r => Rel.ext (ext_take p) r
  | .r j, h, _ => absurd rfl (h j)
  | .n ds, _, ⟨a, xs, h1, h2, h3, h4, h5, h6⟩ => ⟨a, xs, h1, h2, h3.ext (ext_take (pre_hide p)), fun z => h4 (mu_take p z), h5, wd_take (pre_hide p) hn h6⟩
end

/-! ### the table -/
structure DefI where
  x : Str
  st : Stmt
  N : List Str
  ps : List Str
  lm : Bool
  body : Calls → Calls → DenS
def envOf (d : DefI) (args : List SV) : Envi := args.map some ++ List.replicate (d.N.length - d.ps.length) none
def runDef (d : DefI) (R R2 : Calls) (args : List SV) (st : Stor) : Res W := if args.length = d.ps.length then fin st.length (d.body R R2 (envOf d args) st) else .no
def noCalls : Calls := fun _ _ _ => .no
def run (defs : List DefI) : Nat → Calls
  | 0 => noCalls
  | 1 => noCalls
  | 2 => noCalls
  | k + 3 => fun i args st => match defs[i]? with
    | some d => runDef d (run defs (k + 2)) (run defs k) args st
    | none => .no
/-- the context of a def's body -/
abbrev DCx (Pg : Program) (w : World) (K : PySem.W.Frag) (mg : Str → Option Value) (base : Heap) (d : DefI) (f : Addr) (cdv : Value) (A : Around) (outer : List Env) (s : Shared) (H : Hp) (E : XK) : Cx :=
  cxOf (L2N.CX Pg w) Pg w K mg base d.N d.x (defScope d.st) f cdv A outer s H E
structure DefI.Ok (P : Prg) (d : DefI) : Prop where
  sc : FnScope d.N d.ps (defScope d.st)
  der : ∀ (c : Cf) (Pg : Program) (w : World) (K : PySem.W.Frag) (mg : Str → Option Value) (base : Heap) (f : Addr) (cdv : Value) (A : Around) (outer : List Env) (s : Shared) (H : Hp) (E : XK) (Wx : WX), c.P = P → c.lm = d.lm →
    RSs c (DCx Pg w K mg base d f cdv A outer s H E) Wx (defBody d.st) (d.body c.R c.R2)
  bnd : ∀ (kV doc pm : Value) (an : Option Addr) (cdv ct : Value) (us : List Value), us.length = d.ps.length → bindArgs (PySem.W.fnOf d.x d.x (defArgs d.st) (defBody d.st) (defScope d.st) .none kV doc pm an cdv ct) ⟨us, []⟩ = pure (d.ps.zip us)
/-- the ground of all levels -/
structure Grd (P : Prg) (defs : List DefI) (g : G) (Pg : Program) (w : World) (mg : Str → Option Value) (base : Heap) : Prop where
  blt : ∀ x ∈ bltNames, mg x = none
  fns : ∀ i d, defs[i]? = some d → P.fn[i]? = some d.x ∧ mg d.x = some (.ref (g.fa i)) ∧ ∃ fd, Fun g.K d.x d.x d.st (g.fa i) fd
  fnl : P.fn.length = defs.length
  cls : ∀ i x, P.acl[i]? = some x → mg x = some (.ref (g.ca i))
  clok : ∀ i x, P.cl[i]? = some x → ClsOk g.K (g.ca i)
  con : ∀ x d, (x, d) ∈ P.cons → ∃ u v, mg x = some u ∧ RelV v u ∧ ∀ m st H, Rel g m st H v d
  sub : ∀ i j x y, P.cl[i]? = some x → P.acl[j]? = some y → PySem.W.exmOne g.K (.ref (g.ca i)) (.ref (g.ca j)) = some (P.sub i j) ∧ PySem.W.kitOne g.K (.ref (g.ca i)) (.ref (g.ca j)) = some (P.sub i j)
  er : ∀ e, P.er = some e → P.fn[e.i]? = some e.x ∧ ∃ fd, Fun g.K e.x e.x e.st (g.fa e.i) fd
  lam : ∀ i d, defs[i]? = some d → d.lm = true → ∀ (oc : Value) (od : Option Addr) (kV doc pm : Value) (an : Option Addr) (cdv ct : Value) (osl : Array (Option Value)),
    g.K.lookup (g.fa i) = some ⟨oc, od, .func (PySem.W.fnOf d.x d.x (defArgs d.st) (defBody d.st) (defScope d.st) .none kV doc pm an cdv ct), osl⟩ →
      ∃ cc Pt, LamX.TabB base mg cc Pt ∧ cdv = .ref cc ∧ (Pt, (envOfC d.x (defScope d.st) 0 0 cdv).qual ++ "<lambda>") ∈ g.T ∧ ∀ p ∈ g.T, p.1 = Pt → p.2 = (envOfC d.x (defScope d.st) 0 0 cdv).qual ++ "<lambda>"
theorem relss_env {g : G} {m st H} {vs : List V} {args : List SV} {n : Nat} (r : RelSs g m st H vs args) : EnvR g m st H (vs.map some ++ List.replicate n none) (args.map some ++ List.replicate n none) := by
  refine ⟨by simp [r.length], fun i s e => ?_⟩
  have hi : i < args.length := by
    rcases Nat.lt_or_ge i args.length with h | h
    · exact h
    · rw [List.getElem?_append_right (by simpa using h), List.getElem?_replicate] at e
      split at e <;> cases e
  rw [List.getElem?_append_left (by simpa using hi), List.getElem?_map] at e
  cases z : args[i]? with
  | none => rw [z] at e; cases e
  | some a =>
    rw [z] at e
    cases e
    obtain ⟨v, e1, e2⟩ := r.get i z
    refine ⟨v, ?_, e2⟩
    rw [List.getElem?_append_left (by simpa [r.length] using hi), List.getElem?_map, e1]
    rfl
section
variable {P : Prg} {defs : List DefI} {g : G} {Pg : Program} {w : World} {mg : Str → Option Value} {base : Heap}
theorem no_level {k : Nat} (i : Nat) (d : DefI) (fd : FuncData) : FnOk Pg w g.K mg base (L2N.CX Pg w) k (g.fa i) fd d.ps (spOf g noCalls i) :=
  ⟨fun vs H Q E h => by obtain ⟨m, st, args, _, _, h⟩ := h; exact h.elim, fun A outer s H args us vs Q E _ _ _ _ h => by obtain ⟨m, st, args, _, _, h⟩ := h; exact h.elim⟩
theorem all_levels (Gd : Grd P defs g Pg w mg base) (ok : ∀ d ∈ defs, d.Ok P) : ∀ k i d, defs[i]? = some d → ∀ fd, Fun g.K d.x d.x d.st (g.fa i) fd → FnOk Pg w g.K mg base (L2N.CX Pg w) k (g.fa i) fd d.ps (spOf g (run defs k) i) := by
  intro k
  induction k using Nat.strongRecOn with
  | ind k IH =>
  match k, IH with
  | 0, _ => exact fun i d _ fd _ => no_level i d fd
  | 1, _ => exact fun i d _ fd _ => no_level i d fd
  | 2, _ => exact fun i d _ fd _ => no_level i d fd
  | k + 3, IH =>
    have ih := IH (k + 2) (by omega)
    have ih2 := IH k (by omega)
    intro i d hd fd F
    obtain ⟨oc, od, kV, doc, pm, an, cdv, ct, osl, rfl, lk, hcd⟩ := F.ex
    have dok := ok d (List.mem_of_getElem? hd)
    have hrun : ∀ args st, run defs (k + 3) i args st = runDef d (run defs (k + 2)) (run defs k) args st := fun args st => by
      show (match defs[i]? with | some d => runDef d (run defs (k + 2)) (run defs k) args st | none => .no) = _
      rw [hd]
    have hlen : ∀ vs H Q E, spOf g (run defs (k + 3)) i vs H Q E → vs.length = d.ps.length := fun vs H Q E h => by
      obtain ⟨m, st, args, _, r, h⟩ := h
      rw [hrun] at h
      unfold runDef at h
      by_cases hl : args.length = d.ps.length
      · rw [r.length]; exact hl
      · rw [if_neg hl] at h; exact h.elim
    refine fn_of lk hcd dok.sc hlen fun A outer s H vs Q E hr hsp => ?_
    have hl := hlen _ _ _ _ hsp
    obtain ⟨m, st, args, wd, r, h⟩ := hsp
    rw [hrun] at h
    unfold runDef at h
    rw [if_pos (by rw [← r.length]; exact hl)] at h
    have callee : ∀ {j : Nat} {x : Str}, P.fn[j]? = some x → ∃ (hj : j < defs.length), defs[j].x = x ∧ mg x = some (.ref (g.fa j)) ∧ ∃ fd', Fun g.K x x defs[j].st (g.fa j) fd' := fun {j x} hx => by
      have hj : j < defs.length := by
        rw [← Gd.fnl]
        exact (List.getElem?_eq_some_iff.mp hx).1
      obtain ⟨h1, h2, fd', h3⟩ := Gd.fns j defs[j] (List.getElem?_eq_getElem hj)
      have ex : defs[j].x = x := Option.some.inj (h1.symm.trans hx)
      subst ex
      exact ⟨hj, rfl, h2, fd', h3⟩
    have am : Amb ⟨P, g, run defs (k + 2), k + 2, run defs k, k, d.lm⟩ (DCx Pg w g.K mg base d (g.fa i) cdv A outer s H E) := by
      refine ⟨rfl, ?_, fun _ => hr, dok.sc.nd, Gd.blt, fun j x hx => ?_, Gd.cls, Gd.clok, Gd.con, Gd.sub, fun z => absurd (show true = false from z) (by decide), fun hl => ⟨rfl, fun j x hx => ?_, ?_, Gd.er⟩⟩
      · have := hr.un
        show (A.deeper _).units + 70 < cLine
        omega
      · obtain ⟨hj, ex, h2, fd', h3⟩ := callee hx
        subst ex
        exact ⟨h2, h3.kp, fd', defs[j].ps, ih j defs[j] (List.getElem?_eq_getElem hj) fd' h3, h3.binds (ok _ (List.getElem_mem hj)).bnd⟩
      · obtain ⟨hj, ex, h2, fd', h3⟩ := callee hx
        subst ex
        exact ⟨fd', defs[j].ps, ih2 j defs[j] (List.getElem?_eq_getElem hj) fd' h3, h3.binds (ok _ (List.getElem_mem hj)).bnd⟩
      · obtain ⟨cc, Pt, h1, h2, h3, h4⟩ := Gd.lam i d hd hl _ _ _ _ _ _ _ _ _ lk
        exact ⟨cc, Pt, h1, h2, h3, h4⟩
    obtain ⟨t, pt, vt⟩ := (dok.der ⟨P, g, run defs (k + 2), k + 2, run defs k, k, d.lm⟩ Pg w g.K mg base (g.fa i) cdv A outer s H E (fun c d _ H => E c d H) rfl rfl).ex ⟨am, L2N.takes_of rfl rfl rfl rfl, passes_of rfl, rfl, rfl⟩
    refine ⟨t, pt, vt _ H (envOf d args) m st _ ?_ wd ?_⟩
    · have : L2.start d.N vs = vs.map some ++ List.replicate (d.N.length - d.ps.length) none := by
        unfold L2.start
        rw [hl]
      rw [this]
      exact relss_env r
    · -- its ends
      have hml : m.ad.length = st.length := wd.len
      cases z : d.body (run defs (k + 2)) (run defs k) (envOf d args) st with
      | no => rw [z] at h; exact h
      | bk e t => rw [z] at h; exact h.elim
      | ct e t => rw [z] at h; exact h.elim
      | nx e t =>
        rw [z] at h
        intro σ' m' H' s E'
        exact h .non H' (step_take wd s) (show Rel _ _ _ _ _ _ from .non)
      | er x e t =>
        rw [z] at h
        intro c d' σ' m' H' s E' r'
        refine h c d' H' (step_take wd s) ?_
        obtain ⟨e1, e2⟩ := r'
        refine ⟨e1, ?_⟩
        cases q : x.at' with
        | none => rw [q] at e2; exact e2
        | some fy =>
          rw [q] at e2
          obtain ⟨dx, v, k1, k2, k3, k4⟩ := e2
          exact ⟨dx, v, k1, k2, fun z => k3 (mu_take s.pre z), k4.ext (ext_take s.pre)⟩
      | rt w' t =>
        rw [z] at h
        intro v m' H' s r'
        cases w' with
        | d x => exact h v H' (step_take wd s) (relw_take s.pre hml (fun j => by simp) r')
        | n l => exact h v H' (step_take wd s) (relw_take s.pre hml (fun j => by simp) r')
        | r j =>
          have h : Post g m [] (fun c d _ H => E c d H) st H (RW_ g m) (if j < st.length then .ok (.r j) (t.take st.length) else .no) Q := h
          by_cases hj : j < st.length
          case neg => rw [if_neg hj] at h; exact h.elim
          rw [if_pos hj] at h
          refine h v H' (step_take wd s) ?_
          obtain ⟨a, rfl, ha⟩ := r'
          refine ⟨a, rfl, ?_⟩
          obtain ⟨⟨l, hl⟩, _⟩ := s.pre
          rw [hl, List.getElem?_append_left (by rw [hml]; exact hj)] at ha
          exact ha
end
end DL

/-! DL: short names for the printed derivations. -/
namespace DL
open PySem PySem.Spec PyProof.Rows L2
section
variable {c : Cf} {X : Cx}
theorem Amb.u64 (am : Amb c X) : X.A.units + 64 < cLine := by have := am.units; omega
theorem Amb.u65 (am : Amb c X) : X.A.units + 65 < cLine := by have := am.units; omega
theorem oAdd (am : Amb c X) : OpD c.g X (binaryOp .Add) dAdd := opd_add am.K
theorem oSub (am : Amb c X) : OpD c.g X (binaryOp .Sub) dSub := opd_sub
theorem oMul (am : Amb c X) : OpD c.g X (binaryOp .Mult) dMul := opd_mul am.K
theorem oFdiv (am : Amb c X) : OpD c.g X (binaryOp .FloorDiv) dFdiv := opd_fdiv
theorem oMod (am : Amb c X) : OpD c.g X (binaryOp .Mod) dMod := opd_mod
theorem oPow (am : Amb c X) : OpD c.g X (binaryOp .Pow) dPow := opd_pow
theorem oEq (am : Amb c X) : OpD c.g X (compareOp .Eq) dEq := opd_eq am.K am.u64
theorem oNe (am : Amb c X) : OpD c.g X (compareOp .NotEq) dNe := opd_ne am.K am.u64
theorem oLt (am : Amb c X) : OpD c.g X (compareOp .Lt) dLt := opd_lt am.K am.u64
theorem oLe (am : Amb c X) : OpD c.g X (compareOp .LtE) dLe := opd_le
theorem oGt (am : Amb c X) : OpD c.g X (compareOp .Gt) dGt := opd_gt
theorem oGe (am : Amb c X) : OpD c.g X (compareOp .GtE) dGe := opd_ge
theorem oIn (am : Amb c X) : OpD c.g X (compareOp .In) dIn := opd_in am.K am.u65
theorem oNotIn (am : Amb c X) : OpD c.g X (compareOp .NotIn) dNotIn := opd_notin am.K am.u65
theorem oIs (am : Amb c X) : OpD c.g X (compareOp .Is) dIsN := opd_is
theorem oIsNot (am : Amb c X) : OpD c.g X (compareOp .IsNot) dNotN := opd_isnot
end
section
variable {c : Cf} {X : Cx} {Wx : WX} {a : Expr} {es : List Expr} {fs : DenA} {fa : Den} {p p' pos : Pos}
theorem r_len (ha : RAs c X Wx [a] fs) (hg : Gl X "len" := by rfl) (he : starEach [a] X.env = (false, eval a X.env) :: starEach [] X.env := by rfl) : RE c X Wx (.Call (.Name "len" p) [a] [] pos) (eB dLen fs) := re_blt (fun am => cd_len am.K) (by decide) PySem.boot_len ha hg (by decide) (by decide) he rfl
theorem r_abs (ha : RAs c X Wx [a] fs) (hg : Gl X "abs" := by rfl) (he : starEach [a] X.env = (false, eval a X.env) :: starEach [] X.env := by rfl) : RE c X Wx (.Call (.Name "abs" p) [a] [] pos) (eB dAbs fs) := re_blt (fun am => cd_abs) (by decide) (by decide +kernel) ha hg (by decide) (by decide) he rfl
theorem r_sum (ha : RAs c X Wx [a] fs) (hg : Gl X "sum" := by rfl) (he : starEach [a] X.env = (false, eval a X.env) :: starEach [] X.env := by rfl) (hc : X.calm = true := by rfl) : RE c X Wx (.Call (.Name "sum" p) [a] [] pos) (eB dSum fs) := re_blt (fun am => cd_sum hc) (by decide) (by decide +kernel) ha hg (by decide) (by decide) he rfl
theorem r_all (ha : RAs c X Wx [a] fs) (hg : Gl X "all" := by rfl) (he : starEach [a] X.env = (false, eval a X.env) :: starEach [] X.env := by rfl) (hc : X.calm = true := by rfl) : RE c X Wx (.Call (.Name "all" p) [a] [] pos) (eB dAll fs) := re_blt (fun am => cd_all hc) (by decide) (by decide +kernel) ha hg (by decide) (by decide) he rfl
theorem r_any (ha : RAs c X Wx [a] fs) (hg : Gl X "any" := by rfl) (he : starEach [a] X.env = (false, eval a X.env) :: starEach [] X.env := by rfl) (hc : X.calm = true := by rfl) : RE c X Wx (.Call (.Name "any" p) [a] [] pos) (eB dAny fs) := re_blt (fun am => cd_any hc) (by decide) (by decide +kernel) ha hg (by decide) (by decide) he rfl
theorem r_max (ha : RAs c X Wx (a :: es) fs) (hg : Gl X "max" := by rfl) (he : starEach (a :: es) X.env = (false, eval a X.env) :: starEach es X.env := by rfl) (hpl : (backTo pos (starEach es X.env)).any (·.1) = false := by rfl) (hc : X.calm = true := by rfl) : RE c X Wx (.Call (.Name "max" p) (a :: es) [] pos) (eB dMax fs) := re_blt (fun am => cd_max am.K hc) (by decide) (by decide +kernel) ha hg (by decide) (by decide) he hpl
theorem r_min (ha : RAs c X Wx (a :: es) fs) (hg : Gl X "min" := by rfl) (he : starEach (a :: es) X.env = (false, eval a X.env) :: starEach es X.env := by rfl) (hpl : (backTo pos (starEach es X.env)).any (·.1) = false := by rfl) (hc : X.calm = true := by rfl) : RE c X Wx (.Call (.Name "min" p) (a :: es) [] pos) (eB dMin fs) := re_blt (fun am => cd_min am.K hc am.u64) (by decide) (by decide +kernel) ha hg (by decide) (by decide) he hpl
theorem r_sorted (ha : RAs c X Wx [a] fs) (hg : Gl X "sorted" := by rfl) (he : starEach [a] X.env = (false, eval a X.env) :: starEach [] X.env := by rfl) : RE c X Wx (.Call (.Name "sorted" p) [a] [] pos) (eB dSorted fs) := re_blt (fun am => cd_sorted am.K am.u64) (by decide) (by decide +kernel) ha hg (by decide) (by decide) he rfl
theorem r_int (ha : RAs c X Wx [a] fs) (hg : Gl X "int" := by rfl) (he : starEach [a] X.env = (false, eval a X.env) :: starEach [] X.env := by rfl) : RE c X Wx (.Call (.Name "int" p) [a] [] pos) (eB dInt fs) := re_blT (fun am => cd_int) (by decide) (by decide +kernel) ha hg (by decide) (by decide) he rfl
theorem r_list (ha : RAs c X Wx [a] fs) (hg : Gl X "list" := by rfl) (he : starEach [a] X.env = (false, eval a X.env) :: starEach [] X.env := by rfl) : RE c X Wx (.Call (.Name "list" p) [a] [] pos) (eB dList fs) := re_blT (fun am => cd_list am.K) (by decide) (by decide +kernel) ha hg (by decide) (by decide) he rfl
theorem r_tuple (ha : RAs c X Wx [a] fs) (hg : Gl X "tuple" := by rfl) (he : starEach [a] X.env = (false, eval a X.env) :: starEach [] X.env := by rfl) : RE c X Wx (.Call (.Name "tuple" p) [a] [] pos) (eB dTuple fs) := re_blT (fun am => cd_tuple am.K) (by decide) (by decide +kernel) ha hg (by decide) (by decide) he rfl
section
variable (he : RE c X Wx a fa)
theorem r_is_int (ha : RE c X Wx a fa) (hg : Gl X "int" := by rfl) (hi : Gl X "isinstance" := by rfl) (he : starEach [a, .Name "int" p'] X.env = (false, eval a X.env) :: starEach [.Name "int" p'] X.env := by rfl) (he2 : starEach [.Name "int" p'] X.env = (false, eval (.Name "int" p') X.env) :: starEach [] X.env := by rfl) (hpl : (backTo pos (starEach [.Name "int" p'] X.env)).any (·.1) = false := by rfl) : RE c X Wx (.Call (.Name "isinstance" p) [a, .Name "int" p'] [] pos) (eIs "int" fa) := re_is ha (by decide) (by decide +kernel) hg hi (by decide) (by decide) he he2 hpl
theorem r_is_bool (ha : RE c X Wx a fa) (hg : Gl X "bool" := by rfl) (hi : Gl X "isinstance" := by rfl) (he : starEach [a, .Name "bool" p'] X.env = (false, eval a X.env) :: starEach [.Name "bool" p'] X.env := by rfl) (he2 : starEach [.Name "bool" p'] X.env = (false, eval (.Name "bool" p') X.env) :: starEach [] X.env := by rfl) (hpl : (backTo pos (starEach [.Name "bool" p'] X.env)).any (·.1) = false := by rfl) : RE c X Wx (.Call (.Name "isinstance" p) [a, .Name "bool" p'] [] pos) (eIs "bool" fa) := re_is ha (by decide) (by decide +kernel) hg hi (by decide) (by decide) he he2 hpl
theorem r_is_str (ha : RE c X Wx a fa) (hg : Gl X "str" := by rfl) (hi : Gl X "isinstance" := by rfl) (he : starEach [a, .Name "str" p'] X.env = (false, eval a X.env) :: starEach [.Name "str" p'] X.env := by rfl) (he2 : starEach [.Name "str" p'] X.env = (false, eval (.Name "str" p') X.env) :: starEach [] X.env := by rfl) (hpl : (backTo pos (starEach [.Name "str" p'] X.env)).any (·.1) = false := by rfl) : RE c X Wx (.Call (.Name "isinstance" p) [a, .Name "str" p'] [] pos) (eIs "str" fa) := re_is ha (by decide) (by decide +kernel) hg hi (by decide) (by decide) he he2 hpl
theorem r_is_tuple (ha : RE c X Wx a fa) (hg : Gl X "tuple" := by rfl) (hi : Gl X "isinstance" := by rfl) (he : starEach [a, .Name "tuple" p'] X.env = (false, eval a X.env) :: starEach [.Name "tuple" p'] X.env := by rfl) (he2 : starEach [.Name "tuple" p'] X.env = (false, eval (.Name "tuple" p') X.env) :: starEach [] X.env := by rfl) (hpl : (backTo pos (starEach [.Name "tuple" p'] X.env)).any (·.1) = false := by rfl) : RE c X Wx (.Call (.Name "isinstance" p) [a, .Name "tuple" p'] [] pos) (eIs "tuple" fa) := re_is ha (by decide) (by decide +kernel) hg hi (by decide) (by decide) he he2 hpl
theorem r_is_list (ha : RE c X Wx a fa) (hg : Gl X "list" := by rfl) (hi : Gl X "isinstance" := by rfl) (he : starEach [a, .Name "list" p'] X.env = (false, eval a X.env) :: starEach [.Name "list" p'] X.env := by rfl) (he2 : starEach [.Name "list" p'] X.env = (false, eval (.Name "list" p') X.env) :: starEach [] X.env := by rfl) (hpl : (backTo pos (starEach [.Name "list" p'] X.env)).any (·.1) = false := by rfl) : RE c X Wx (.Call (.Name "isinstance" p) [a, .Name "list" p'] [] pos) (eIs "list" fa) := re_is ha (by decide) (by decide +kernel) hg hi (by decide) (by decide) he he2 hpl
end
end
end DL

/-! DL: list(range(..)), tuple(range(..)). -/
namespace DL
open PySem PySem.Spec PyProof.Rows L2
def rgL (n k : Int) (st : Stor) : Res (List D) := if decide (n.natAbs ≤ 8388608) && decide (k.natAbs ≤ 8388608) then .ok (rangeD n (k - n).toNat) st else .no
theorem rgL_int {n k : Int} {st : Stor} (h1 : n.natAbs ≤ 8388608) (h2 : k.natAbs ≤ 8388608) : rgL n k st = .ok (rangeD n (k - n).toNat) st := by
  unfold rgL
  rw [decide_eq_true h1, decide_eq_true h2]
  rfl
@[simp] def eLR1 (f : Den) : Den := fun env st => (f env st).bind fun w st => (Res.ofO w.asI st).bind fun k st => (rgL 0 k st).bind fun l st => .ok (.n l) st
@[simp] def eTR1 (f : Den) : Den := fun env st => (f env st).bind fun w st => (Res.ofO w.asI st).bind fun k st => (rgL 0 k st).bind fun l st => .ok (.d (.tup l)) st
@[simp] def eLR2 (f f' : Den) : Den := fun env st => (f env st).bind fun w st => (f' env st).bind fun w' st => (Res.ofO w.asI st).bind fun n st => (Res.ofO w'.asI st).bind fun k st => (rgL n k st).bind fun l st => .ok (.n l) st
@[simp] def eTR2 (f f' : Den) : Den := fun env st => (f env st).bind fun w st => (f' env st).bind fun w' st => (Res.ofO w.asI st).bind fun n st => (Res.ofO w'.asI st).bind fun k st => (rgL n k st).bind fun l st => .ok (.d (.tup l)) st
theorem rgL_some {n k : Int} {st : Stor} {l : List D} {st' : Stor} (h : rgL n k st = .ok l st') : st' = st ∧ l = rangeD n (k - n).toNat ∧ RgOk n k := by
  unfold rgL at h
  split at h
  · rename_i z
    cases h
    simp only [Bool.and_eq_true, decide_eq_true_eq] at z
    exact ⟨rfl, rfl, by omega, by omega, by omega, by omega, by omega⟩
  · cases h
theorem rgL_rel {g : G} {m : Mm} {st : Stor} {H : Hp} {n k : Int} : RelL g m st H (rgV n k) (rangeD n (k - n).toNat) := by
  unfold rgV rangeD
  generalize List.range (k - n).toNat = l
  induction l with
  | nil => exact .nil
  | cons x l ih => exact .cons (.int _) ih
theorem rgL_cases {n k : Int} {st : Stor} : (∃ l, rgL n k st = .ok l st) ∨ rgL n k st = .no := by
  unfold rgL
  split
  · exact .inl ⟨_, rfl⟩
  · exact .inr rfl
section
variable {c : Cf} {X : Cx} {Wx : WX} {a b : Expr} {fa fb : Den} {p p' pos pos' : Pos}
theorem re_listRg1 (ha : RE c X Wx a fa) (hg : Gl X "list" := by rfl) (hg' : Gl X "range" := by rfl) (hc : X.calm = true := by rfl) (na : starEach [a] X.env = (false, eval a X.env) :: starEach [] X.env := by rfl)
    (ne : starEach [.Call (.Name "range" p') [a] [] pos'] X.env = (false, eval (.Call (.Name "range" p') [a] [] pos') X.env) :: starEach [] X.env := by rfl) : RE c X Wx (.Call (.Name "list" p) [.Call (.Name "range" p') [a] [] pos'] [] pos) (eLR1 fa) := ⟨fun am tk => by
  obtain ⟨t, pa, va⟩ := ha.ex am tk
  refine ⟨_, pe_listRg hc hg (am.blt "list" (by decide)) (prg_1 hg' (am.blt "range" (by decide)) pa na) ne, fun σ H env m st Q E w h => va σ H env m st _ E w (Post.bind (RA := RW_ c.g m) back_w h fun w1 st1 _ v H1 s1 r1 h => ?_)⟩
  cases z : w1.asI with
  | none => rw [z] at h; exact h.elim
  | some k =>
    rw [z] at h
    have e := r1.w0.asI z
    subst e
    have h : Post c.g m σ Wx st1 H1 (RW_ c.g m) ((rgL 0 k st1).bind fun l st => .ok (W.n l) st) Q := h
    rcases rgL_cases (n := 0) (k := k) (st := st1) with ⟨l, e⟩ | e
    · rw [e] at h
      obtain ⟨-, rfl, ok⟩ := rgL_some e
      exact ⟨k, rfl, ok, fun q hq => h.okS (step_new s1.wd hq) (rel_newL s1.wd hq rgL_rel)⟩
    · rw [e] at h
      exact h.elim⟩
theorem re_listRg2 (ha : RE c X Wx a fa) (hb : RE c X Wx b fb) (hg : Gl X "list" := by rfl) (hg' : Gl X "range" := by rfl) (hc : X.calm = true := by rfl) (na : starEach [a, b] X.env = (false, eval a X.env) :: starEach [b] X.env := by rfl) (nb : starEach [b] X.env = (false, eval b X.env) :: starEach [] X.env := by rfl)
    (hp : (backTo pos' (starEach [b] X.env)).any (·.1) = false := by rfl) (ne : starEach [.Call (.Name "range" p') [a, b] [] pos'] X.env = (false, eval (.Call (.Name "range" p') [a, b] [] pos') X.env) :: starEach [] X.env := by rfl) : RE c X Wx (.Call (.Name "list" p) [.Call (.Name "range" p') [a, b] [] pos'] [] pos) (eLR2 fa fb) := ⟨fun am tk => by
  obtain ⟨t, pa, va⟩ := ha.ex am tk
  obtain ⟨t2, pb, vb⟩ := hb.ex am tk
  refine ⟨_, pe_listRg hc hg (am.blt "list" (by decide)) (prg_2 hg' (am.blt "range" (by decide)) pa pb na nb hp) ne, fun σ H env m st Q E w h => va σ H env m st _ E w (Post.bind (RA := RW_ c.g m) back_w h fun w1 st1 _ v H1 s1 r1 h => ?_)⟩
  refine vb σ H1 env m st1 _ (E.ext s1.ext s1.pre) s1.wd (Post.bind (RA := RW_ c.g m) back_w h fun w2 st2 _ v2 H2 s2 r2 h => ?_)
  cases z : w1.asI with
  | none => rw [z] at h; exact h.elim
  | some n =>
    cases z' : w2.asI with
    | none => rw [z, z'] at h; exact h.elim
    | some k =>
      rw [z, z'] at h
      have e := r1.w0.asI z
      subst e
      have e := r2.w0.asI z'
      subst e
      have h : Post c.g m σ Wx st2 H2 (RW_ c.g m) ((rgL n k st2).bind fun l st => .ok (W.n l) st) Q := h
      rcases rgL_cases (n := n) (k := k) (st := st2) with ⟨l, e⟩ | e
      · rw [e] at h
        obtain ⟨-, rfl, ok⟩ := rgL_some e
        exact ⟨n, k, rfl, rfl, ok, fun q hq => h.okS (step_new s2.wd hq) (rel_newL s2.wd hq rgL_rel)⟩
      · rw [e] at h
        exact h.elim⟩
theorem re_tupleRg1 (ha : RE c X Wx a fa) (hg : Gl X "tuple" := by rfl) (hg' : Gl X "range" := by rfl) (hc : X.calm = true := by rfl) (na : starEach [a] X.env = (false, eval a X.env) :: starEach [] X.env := by rfl)
    (ne : starEach [.Call (.Name "range" p') [a] [] pos'] X.env = (false, eval (.Call (.Name "range" p') [a] [] pos') X.env) :: starEach [] X.env := by rfl) : RE c X Wx (.Call (.Name "tuple" p) [.Call (.Name "range" p') [a] [] pos'] [] pos) (eTR1 fa) := ⟨fun am tk => by
  obtain ⟨t, pa, va⟩ := ha.ex am tk
  refine ⟨_, pe_tupRg hc hg (am.blt "tuple" (by decide)) (prg_1 hg' (am.blt "range" (by decide)) pa na) ne, fun σ H env m st Q E w h => va σ H env m st _ E w (Post.bind (RA := RW_ c.g m) back_w h fun w1 st1 _ v H1 s1 r1 h => ?_)⟩
  cases z : w1.asI with
  | none => rw [z] at h; exact h.elim
  | some k =>
    rw [z] at h
    have e := r1.w0.asI z
    subst e
    have h : Post c.g m σ Wx st1 H1 (RW_ c.g m) ((rgL 0 k st1).bind fun l st => .ok (W.d (D.tup l)) st) Q := h
    rcases rgL_cases (n := 0) (k := k) (st := st1) with ⟨l, e⟩ | e
    · rw [e] at h
      obtain ⟨-, rfl, ok⟩ := rgL_some e
      exact ⟨k, rfl, ok, fun q hq => h.okS (step_new s1.wd hq) (rel_newT s1.wd hq rgL_rel)⟩
    · rw [e] at h
      exact h.elim⟩
theorem re_tupleRg2 (ha : RE c X Wx a fa) (hb : RE c X Wx b fb) (hg : Gl X "tuple" := by rfl) (hg' : Gl X "range" := by rfl) (hc : X.calm = true := by rfl) (na : starEach [a, b] X.env = (false, eval a X.env) :: starEach [b] X.env := by rfl) (nb : starEach [b] X.env = (false, eval b X.env) :: starEach [] X.env := by rfl)
    (hp : (backTo pos' (starEach [b] X.env)).any (·.1) = false := by rfl) (ne : starEach [.Call (.Name "range" p') [a, b] [] pos'] X.env = (false, eval (.Call (.Name "range" p') [a, b] [] pos') X.env) :: starEach [] X.env := by rfl) : RE c X Wx (.Call (.Name "tuple" p) [.Call (.Name "range" p') [a, b] [] pos'] [] pos) (eTR2 fa fb) := ⟨fun am tk => by
  obtain ⟨t, pa, va⟩ := ha.ex am tk
  obtain ⟨t2, pb, vb⟩ := hb.ex am tk
  refine ⟨_, pe_tupRg hc hg (am.blt "tuple" (by decide)) (prg_2 hg' (am.blt "range" (by decide)) pa pb na nb hp) ne, fun σ H env m st Q E w h => va σ H env m st _ E w (Post.bind (RA := RW_ c.g m) back_w h fun w1 st1 _ v H1 s1 r1 h => ?_)⟩
  refine vb σ H1 env m st1 _ (E.ext s1.ext s1.pre) s1.wd (Post.bind (RA := RW_ c.g m) back_w h fun w2 st2 _ v2 H2 s2 r2 h => ?_)
  cases z : w1.asI with
  | none => rw [z] at h; exact h.elim
  | some n =>
    cases z' : w2.asI with
    | none => rw [z, z'] at h; exact h.elim
    | some k =>
      rw [z, z'] at h
      have e := r1.w0.asI z
      subst e
      have e := r2.w0.asI z'
      subst e
      have h : Post c.g m σ Wx st2 H2 (RW_ c.g m) ((rgL n k st2).bind fun l st => .ok (W.d (D.tup l)) st) Q := h
      rcases rgL_cases (n := n) (k := k) (st := st2) with ⟨l, e⟩ | e
      · rw [e] at h
        obtain ⟨-, rfl, ok⟩ := rgL_some e
        exact ⟨n, k, rfl, rfl, ok, fun q hq => h.okS (step_new s2.wd hq) (rel_newT s2.wd hq rgL_rel)⟩
      · rw [e] at h
        exact h.elim⟩
end
end DL

/-! DL: methods of lists. -/
namespace DL
open PySem PySem.Spec PyProof.Rows L2
def W.isL (st : Stor) (w : W) : Bool := (w.asL st).isSome
@[simp] theorem isL_n {st : Stor} {l : List D} : W.isL st (.n l) = true := rfl
@[simp] theorem isL_d {st : Stor} {l : List D} : W.isL st (.d (.lst l)) = true := rfl
def MthD (g : G) (X : Cx) (id : String) (o : Stor → W → List W → Option W) : Prop :=
  ∃ r : V → List V → Hp → VK → Prop, MtR X id r ∧ ∀ (m : Mm) (st : Stor) (H : Hp) (x : V) (xs : List V) (w : W) (ws : List W) (w' : W) (Q : VK), Wd g m st H → RelW0 g m st H x w → RelWs g m st H xs ws → o st w ws = some w' → (∀ v H', Step g m st H m st H' → RelW g m st H H' v w' → Q v H') → r x xs H Q
@[simp] def eMtL (o : Stor → W → List W → Option W) (f : Den) (fs : DenA) : Den := fun env st => (f env st).bind fun w st => if W.isL st w then (fs env st).bind fun ws st => .ofO (o st w ws) st else .no
section
variable {c : Cf} {X : Cx} {Wx : WX} {a b : Expr} {es : List Expr} {fa : Den} {fs : DenA} {pos apos : Pos}
theorem re_mtL {id : String} {name : Str} {o : Stor → W → List W → Option W} (ho : Amb c X → MthD c.g X id o) (slot : Slot "list" name id) (hty : typeOf (.builtin id) = pure (.type "method_descriptor")) (ha : RE c X Wx a fa) (hb : RAs c X Wx (b :: es) fs)
    (hbase : attributeBase a name X.env (eval a X.env) = eval a X.env := by rfl)
    (hfew : ((backTo pos (starEach (b :: es) X.env)).all (fun x => !x.1) && (backToKw pos (keywordEach [] X.env)).all (fun x => x.1.isSome) && decide ((b :: es).length + ([] : List Keyword).length + (if ([] : List Keyword).isEmpty then 0 else 1) < 30)) = true := by rfl)
    (hline : (apos.endLine == pos.line) = true := by rfl) (hs : starEach (b :: es) X.env = (false, eval b X.env) :: starEach es X.env := by rfl) (hpl : (backTo pos (starEach es X.env)).any (·.1) = false := by rfl) :
    RE c X Wx (.Call (.Attribute a name apos) (b :: es) [] pos) (eMtL o fa fs) := ⟨fun am tk => by
  obtain ⟨r, h1, h2⟩ := ho am
  obtain ⟨t1, p1, v1⟩ := ha.ex am tk
  obtain ⟨t2, p2, v2⟩ := hb.ex am tk
  refine ⟨_, pe_bm PySem.F.plainAttrs_list slot hty h1 p1 p2 hbase hfew hline hs hpl, fun σ H env m st Q E w h => v1 σ H env m st _ E w (Post.bind (RA := RW_ c.g m) back_w h fun w1 st1 _ x H1 s1 r1 h => ?_)⟩
  by_cases z : W.isL st1 w1 = true
  case neg => rw [if_neg z] at h; exact h.elim
  rw [if_pos z] at h
  obtain ⟨l, hl⟩ := Option.isSome_iff_exists.mp z
  refine ⟨?_, v2 σ H1 env m st1 _ (E.ext s1.ext s1.pre) s1.wd (Post.bind (RA := RWs_ c.g m) back_w h fun ws st2 _ vs H2 s2 r2 h => ?_)⟩
  · obtain ⟨p, xs, rfl, h3, _⟩ := r1.w0.asL s1.wd hl
    exact .inl ⟨rfl, xs, SqL.of h3⟩
  · obtain ⟨w3, e3, h⟩ := h.ofO
    exact h2 m st2 H2 x vs w1 ws w3 Q s2.wd (r1.w0.ext s2.ext) r2 e3 fun v H' s r => h.okS s r⟩
end
section
variable {g : G} {X : Cx}
def dCount (st : Stor) (w : W) : List W → Option W
  | [.d (.int k)] => (w.asL st).bind fun l => (intsOf l).map fun ns => .d (.int (ns.count k : Nat))
  | _ => none
theorem md_count (hK : X.K = g.K) : MthD g X "list.count" dCount := ⟨_, mt_lcount, fun m st H x xs w ws w' Q wd r rs e q => by
  unfold dCount at e
  split at e
  · rename_i k
    cases z : w.asL st with
    | none => rw [z] at e; cases e
    | some l =>
      rw [z] at e
      cases z2 : intsOf l with
      | none => simp only [Option.bind_some, z2] at e; cases e
      | some ns =>
        simp only [Option.bind_some, z2] at e
        cases e
        obtain ⟨y, _, rfl, r2⟩ := rs.one
        cases r2
        obtain ⟨a, ys, rfl, h2, h3⟩ := r.asL wd z
        rw [h3.intsOf z2] at h2
        exact ⟨a, ns, k, rfl, rfl, SqL.of h2, q _ _ (.refl wd) (show Rel _ _ _ _ _ _ from .int _)⟩
  · cases e⟩
end
section
variable {c : Cf} {X : Cx} {Wx : WX} {a b : Expr} {fa fb : Den} {pos apos : Pos}
theorem re_count (ha : RE c X Wx a fa) (hb : RE c X Wx b fb) (hbase : attributeBase a "count" X.env (eval a X.env) = eval a X.env := by rfl)
    (hfew : ((backTo pos (starEach [b] X.env)).all (fun x => !x.1) && (backToKw pos (keywordEach [] X.env)).all (fun x => x.1.isSome) && decide ([b].length + ([] : List Keyword).length + (if ([] : List Keyword).isEmpty then 0 else 1) < 30)) = true := by rfl)
    (hline : (apos.endLine == pos.line) = true := by rfl) (hs : starEach [b] X.env = (false, eval b X.env) :: starEach [] X.env := by rfl) : RE c X Wx (.Call (.Attribute a "count" apos) [b] [] pos) (eMtL dCount fa (DL.gCons fb DL.gNil)) :=
  re_mtL (fun am => md_count am.K) PySem.F.slot_list_count (by rfl) ha (ras_cons hb ras_nil hs) hbase hfew hline hs rfl
end
end DL

/-! DL: reversed(..) gone over. -/
namespace DL
open PySem PySem.Spec PyProof.Rows L2
open _root_.RT (ItvT pi_revA)
section
variable {g : G} {m : Mm} {st : Stor} {H : Hp}
theorem rev_at {n i : Nat} {ds : List D} {d : D} (hn : ds.length = n) (e : ds.reverse[i]? = some d) : i < n ∧ ds[n - 1 - i]? = some d := by
  have hi : i < ds.length := by
    have := (List.getElem?_eq_some_iff.mp e).1
    simpa using this
  rw [List.getElem?_reverse hi] at e
  exact ⟨by omega, by rw [← hn]; exact e⟩
theorem itok_revL {a : Addr} {xs : List V} {ds : List D} (h : LsR m st H a xs) (r : RelL g m st H xs ds) {K : PySem.W.Frag} : ItOk g m st H (Itv K a xs.length) ds.reverse := fun m' st' H' s i => by
  have h2 := (h.ext s.ext).sq (K := K)
  have r2 := r.ext s.ext
  refine ⟨fun d e => ?_, fun hi => by rw [List.length_reverse, ← r.length] at hi; exact hi⟩
  obtain ⟨hi, e⟩ := rev_at r.length.symm e
  obtain ⟨v, e1, e2⟩ := r2.get _ e
  refine ⟨⟨hi, xs, v, h2, e1⟩, fun x H'' y => ?_⟩
  obtain ⟨rfl, y⟩ := y
  have ex := (y xs h2).symm.trans e1
  cases ex
  exact ⟨.refl s.wd, e2⟩
theorem itok_revT {a : Addr} {xs : List V} {ds : List D} (h : TpR g.K m st H a xs) (r : RelL g m st H xs ds) : ItOk g m st H (ItvT g.K a xs.length) ds.reverse := fun m' st' H' s i => by
  have h2 := (h.ext s.ext).sq
  have r2 := r.ext s.ext
  refine ⟨fun d e => ?_, fun hi => by rw [List.length_reverse, ← r.length] at hi; exact hi⟩
  obtain ⟨hi, e⟩ := rev_at r.length.symm e
  obtain ⟨v, e1, e2⟩ := r2.get _ e
  refine ⟨⟨hi, xs, v, h2, e1⟩, fun x H'' y => ?_⟩
  obtain ⟨rfl, y⟩ := y
  have ex := (y xs h2).symm.trans e1
  cases ex
  exact ⟨.refl s.wd, e2⟩
end
section
variable {c : Cf} {X : Cx} {Wx : WX} {a tg : Expr} {fa : Den} {p pos : Pos}
@[simp] def iRev_ (f : Den) : DenL := fun env st => (f env st).bind fun w st => (Res.ofO w.seqD st).bind fun l st => .ok l.reverse st
theorem ri_rev (ha : RE c X Wx a fa) (hg : Gl X "reversed" := by rfl) (hs : starEach [a] X.env = (false, eval a X.env) :: starEach [] X.env := by rfl) : RI c X Wx tg (.Call (.Name "reversed" p) [a] [] pos) (iRev_ fa) := ⟨fun am tk => by
  obtain ⟨t, pa, va⟩ := ha.ex am tk
  refine ⟨_, pi_revA hg (am.blt "reversed" (by decide)) pa hs, fun σ H env m st R E w h => va σ H env m st _ E w (Post.bind (RA := RW_ c.g m) back_i h fun w1 st1 _ v H1 s1 r1 h => ?_)⟩
  cases e : w1.seqD with
  | none => rw [e] at h; exact h.elim
  | some l =>
    rw [e] at h
    have h : Post c.g m σ Wx st1 H1 (RI_ c.g m) (.ok l.reverse st1) R := h
    obtain ⟨q, xs, rfl, h1 | h1, h2⟩ := seqD_rel r1 e
    · exact ⟨q, xs, rfl, .inl ⟨h1.sq, h.ok s1.wd (itok_revL h1 h2)⟩⟩
    · exact ⟨q, xs, rfl, .inr ⟨am.K ▸ h1.sq, h.ok s1.wd (am.K ▸ itok_revT h1 h2)⟩⟩⟩
end
end DL

/-! DL: further rules: a sequence backwards; a, b = x, y. -/
namespace DLTup
open PySem PySem.Spec PyProof.Rows HT
variable {prog : Program} {w : World} {A : Around} {E : Value → Shared → Prop} {s : Shared}
theorem adjust_back (n : Nat) : Builtin.Slice.sliceAdjust none none (-1) (n : Int) = ((n : Int) - 1, -1) := rfl
theorem places_back (n : Nat) : Builtin.Slice.slicePlaces ((n : Int) - 1) (-1) (-1) = n := by
  unfold Builtin.Slice.slicePlaces
  rw [if_neg (show ¬ ((-1 : Int) > 0) by decide)]
  split
  · rw [show (-(-1) : Int) = 1 from rfl, Int.ediv_one]; omega
  · omega
theorem applied_back {sl : Addr} {t : Tok} {n : Nat} {Q : Int × Int × Nat → Shared → Prop} (hs : s.heap.IsSliceOf sl .none .none (.int (-1) t)) (h : Q ((n : Int) - 1, -1, n) s) : wpAny (model prog w) A (Builtin.Slice.sliceApplied (.ref sl) (pure (n : Int))) Q E s := by
  obtain ⟨os, hos, hcs, hds⟩ := id hs
  unfold Builtin.Slice.sliceApplied Builtin.Slice.sliceFields
  refine wpAny_bind (wpAny_bind (wpAny_field hos hds (x := .none) rfl (wpAny_bind (wpAny_field hos hds (x := .none) rfl (wpAny_bind (wpAny_field hos hds (x := .int (-1) t) rfl (wpAny_pure ?_)))))))
  refine wpAny_bind (slicePart_int ?_)
  show wpAny _ _ (if ((-1 : Int) == 0) = true then _ else _) _ _ s
  rw [if_neg (by decide)]
  refine wpAny_bind (slicePart_none (wpAny_bind (slicePart_none (wpAny_bind (wpAny_pure ?_)))))
  show wpAny _ _ (match Builtin.Slice.sliceAdjust none none (-1) (n : Int) with | (lo, hi) => pure (lo, (-1 : Int), Builtin.Slice.slicePlaces lo hi (-1))) _ _ s
  rw [adjust_back]
  show wpAny _ _ (pure ((n : Int) - 1, (-1 : Int), Builtin.Slice.slicePlaces ((n : Int) - 1) (-1) (-1))) _ _ s
  rw [places_back]
  exact wpAny_pure h
theorem fm_congr {α β : Type} {f g : α → Option β} : ∀ {l : List α}, (∀ x ∈ l, f x = g x) → l.filterMap f = l.filterMap g
  | [], _ => rfl
  | x :: l, h => by rw [List.filterMap_cons, List.filterMap_cons, h x List.mem_cons_self, fm_congr fun y hy => h y (List.mem_cons_of_mem _ hy)]
theorem pick_back (xs : Array Value) : ((List.range xs.size).filterMap fun (m : Nat) => xs[((xs.size : Int) - 1 + (m : Int) * (-1)).toNat]?) = xs.toList.reverse := by
  have e := pick_run xs.toList.reverse.toArray 0 xs.size
  rw [List.filterMap_map] at e
  have e2 : (xs.toList.reverse.toArray.toList.drop 0).take xs.size = xs.toList.reverse := by
    rw [List.drop_zero]
    exact List.take_of_length_le (by simp)
  rw [e2] at e
  rw [← e]
  refine fm_congr fun m hm => ?_
  rw [List.mem_range] at hm
  have h1 : ((xs.size : Int) - 1 + (m : Int) * (-1)).toNat = xs.size - 1 - m := by omega
  rw [h1]
  simp only [Function.comp, Nat.zero_add, List.getElem?_toArray]
  rw [List.getElem?_reverse (by simpa using hm)]
  simp
theorem getItem_back {t sl : Addr} {items : Array Value} {u : Tok} {Q : Value → Shared → Prop} (ht : IsTup s.heap t items) (hs : s.heap.IsSliceOf sl .none .none (.int (-1) u)) (hz : items.size ≤ sizeLine)
    (h : Q (.ref s.heap.objs.size) { s with heap := s.heap.push { cls := .type "tuple", data := .seq items.toList.reverse.toArray } }) : wpAny (model prog w) A (getItem (.ref t) (.ref sl)) Q E s := by
  obtain ⟨os, hos, hcs, hds⟩ := id hs
  have hTs : s.TypeIs (.ref sl) "slice" := ⟨os, hos, hcs⟩
  unfold getItem
  try with_reducible refine wpAny_holding ?_
  first | refine wpAny_bind (wpAny_pure ?_) | skip
  refine wpAny_bind (wpAny_sequenceKey ht.typeIs (by decide) ?_)
  refine wpAny_bind (wpAny_callSpecial?_slot (name := Str.ofString "__getitem__") ht.typeIs PyProof.Rows.slot_tuple_getitem
    (wpAny_call_entry PyProof.Rows.slot_tuple_getitem ht.typeIs entry_tuple_getitem ?_ (args_tuple_getitem _ _)))
  show wpAny _ _ (Builtin.Tuple.tupleItemsOf (.ref t) >>= _) _ _ s
  refine wpAny_bind (tupleItemsOf_ ht ?_)
  refine wpAny_bind (wpAny_typeOf hTs ?_)
  rw [if_pos (by decide)]
  refine wpAny_bind (applied_back hs ?_)
  have hno : ¬ ((((items.size : Int) - 1 == 0) && ((-1 : Int) == 1) && (items.size == items.size)) = true) := by
    intro q
    rw [Bool.and_eq_true, Bool.and_eq_true] at q
    exact absurd q.1.2 (by decide)
  show wpAny _ _ (if (((items.size : Int) - 1 == 0) && ((-1 : Int) == 1) && (items.size == items.size)) = true then _ else _) _ _ s
  rw [if_neg hno, pick_back]
  have hz2 : sizeOk (.seq items.toList.reverse.toArray) := by
    show items.toList.reverse.toArray.size ≤ sizeLine
    rw [List.size_toArray, List.length_reverse, Array.length_toList]
    exact hz
  first
    | exact wpAny_bind (m := Builtin.Tuple.tupleExact _) (wpAny_newObj_type (wpAny_pure ⟨_, rfl, wpAny_pure h⟩) hz2)
    | exact wpAny_bind (m := Builtin.Tuple.tupleExact _) (wpAny_newObj_type (wpAny_bind (wpAny_pure (wpAny_pure ⟨_, rfl, wpAny_pure h⟩))) hz2)
    | exact wpAny_bind (wpAny_bind (m := Builtin.Tuple.tupleExact _) (wpAny_newObj_type (wpAny_pure (wpAny_pure ⟨_, rfl, wpAny_pure h⟩)) hz2))
    | exact wpAny_bind (wpAny_bind (m := Builtin.Tuple.tupleExact _) (wpAny_newObj_type (wpAny_pure ⟨_, rfl, wpAny_pure h⟩) hz2))
end DLTup
namespace DL
open PySem PySem.Spec PyProof.Rows L2
def tBackT (K : PySem.W.Frag) (te : TE) : TE := fun σ H Q => te σ H fun x H1 => ∃ a xs, x = .ref a ∧ SqT K H1 a xs ∧ ∀ p, H1 p = none → Q (.ref p) (upd H1 p (.tup xs.reverse))
section
variable {X : Cx}
/-- a list or a tuple backwards -/
theorem pe_back {e : Expr} {te : TE} {k : Nat} {p1 p2 p3 pos : Pos} (he : PE X e te) : PE X (.Subscript e (.Slice none none (some (.UnaryOp .USub (.Constant (.int 1) k p1) p2)) p3) pos) (fun σ H Q => te σ H fun x H1 => (∃ a xs, x = .ref a ∧ SqT X.K H1 a xs ∧ ∀ p, H1 p = none → Q (.ref p) (upd H1 p (.tup xs.reverse))) ∨
    (∃ a xs, x = .ref a ∧ SqL X.K H1 a xs ∧ ∀ p, H1 p = none → Q (.ref p) (upd H1 p (.lst xs.reverse)))) := by
  refine ⟨fun pins s σ H Q I h => ?_⟩
  refine Subscript_ (thn (he.run pins s σ H _ I h) fun v s1 ⟨x, H1, I1, r1, q1⟩ => ?_)
  have hst : PO X (some (.UnaryOp .USub (.Constant (.int 1) k p1) p2)) (tPart (tUn (rU fun i => .int (-i)) (tC (.int 1)))) := po_some (pe_un un_neg pe_int)
  refine wpAny_Slice (thn (po_none.run pins s1 σ H1 (fun o H2 => o = none ∧ H2 = H1) I1 ⟨rfl, rfl⟩) fun vl s2 ⟨l, H2, I2, pl, el, e2⟩ => ?_)
  subst el e2
  cases pl
  refine thn (po_none.run pins s2 σ H2 (fun o H3 => o = none ∧ H3 = H2) I2 ⟨rfl, rfl⟩) fun vu s3 ⟨u, H3, I3, pu, eu, e3⟩ => ?_
  subst eu e3
  cases pu
  refine thn (hst.run pins s3 σ H3 (fun o H4 => o = some (-1) ∧ H4 = H3) I3 ⟨1, rfl, -1, rfl, rfl, rfl⟩) fun vs s4 ⟨o, H4, I4, ps, eo, e4⟩ => ?_
  subst eo e4
  have I5 : Inv X pins σ H4 { s4 with heap := s4.heap.push { cls := .type "slice", data := .fields #[.none, .none, vs] } } := I4.kept (t' := s4.toks) fun b ob q => Heap.get?_push_of_some _ q
  rcases q1 with ⟨a, xs, rfl, hx, q⟩ | ⟨a, xs, rfl, hx, q⟩
  · cases r1
    obtain ⟨its, r, ht, hz⟩ := I5.tuple hx
    cases ps
    show wpAny (model X.prog X.w) X.A (subscriptTail e (.Slice none none (some (.UnaryOp .USub (.Constant (.int 1) k p1) p2)) p3) (.ref a) (.ref s4.heap.objs.size)) (EP X pins σ Q) X.xe _
    refine tail_any (ops := [.ref a, .ref s4.heap.objs.size]) ht.typeIs (PyProof.Rows.slot_tuple_getitem.lookup) ?_ (by with_unfolding_all rfl)
    refine DLTup.getItem_back ht (Heap.IsSliceOf.new _ .none .none _) (by rw [List.size_toArray, r.length.symm]; exact hz) ?_
    have e : its.toArray.toList.reverse.toArray = its.reverse.toArray := by simp
    rw [e]
    refine ⟨.ref _, _, I5.laid (t' := s4.toks) (o := .tup xs.reverse) (fun b ob q => Heap.get?_push_of_some _ q) (Nat.le_refl _) ?_, rfl, q _ (I5.hok.fresh (Nat.le_refl _))⟩
    exact ⟨by rw [List.length_reverse]; exact hz, _, r.reverse, IsTup.new _ _⟩
  · cases r1
    obtain ⟨its, r, ht, hz⟩ := I5.list hx
    show wpAny (model X.prog X.w) X.A (subscriptTail e (.Slice none none (some (.UnaryOp .USub (.Constant (.int 1) k p1) p2)) p3) (.ref a) (.ref s4.heap.objs.size)) (EP X pins σ Q) X.xe _
    refine tail_any (ops := [.ref a, .ref s4.heap.objs.size]) ht.isList.typeIs (PySem.slot_list_getitem.lookup) ?_ (by with_unfolding_all rfl)
    refine wpAny_getItem_list_slice ht.isList (Heap.IsSliceOf.new _ .none .none vs) .none .none ps (by decide) ?_ (by rw [List.size_toArray, r.length.symm]; exact hz)
    rw [PySem.W.krv_pick]
    refine ⟨.ref _, _, I5.laid (t' := s4.toks) (o := .lst xs.reverse) (fun b ob q => Heap.get?_push_of_some _ q) (Nat.le_refl _) ?_, rfl, q _ (I5.hok.fresh (Nat.le_refl _))⟩
    have e : its.toArray.toList.reverse.toArray = its.reverse.toArray := by simp
    exact ⟨by rw [List.length_reverse]; exact hz, its.reverse, 0, r.reverse, Heap.get?_push_size _ rfl⟩
end
section
variable {c : Cf} {X : Cx} {Wx : WX} {a : Expr} {fa : Den} {pos : Pos}
def dRev (st : Stor) : W → Option W
  | .d (.tup l) => some (.d (.tup l.reverse))
  | w => (w.asL st).map fun l => .n l.reverse
@[simp] def eRev (f : Den) : Den := fun env st => (f env st).bind fun w st => .ofO (dRev st w) st
theorem re_rev {k : Nat} {p1 p2 p3 : Pos} (ha : RE c X Wx a fa) : RE c X Wx (.Subscript a (.Slice none none (some (.UnaryOp .USub (.Constant (.int 1) k p1) p2)) p3) pos) (eRev fa) := ⟨fun am tk => by
  obtain ⟨t, p, v⟩ := ha.ex am tk
  refine ⟨_, pe_back p, fun σ H env m st Q E w h => v σ H env m st _ E w (Post.bind back_w h fun w1 st1 _ x H1 s1 r1 h => ?_)⟩
  obtain ⟨w2, e2, h⟩ := h.ofO
  unfold dRev at e2
  split at e2
  · rename_i l
    cases e2
    obtain ⟨b, xs, rfl, h1, h2⟩ := r1.w0.asT rfl
    exact .inl ⟨b, xs, rfl, am.K ▸ h1, fun p hp => h.okS (step_new s1.wd hp) (rel_newT s1.wd hp h2.reverse)⟩
  · cases z : w1.asL st1 with
    | none => rw [z] at e2; cases e2
    | some l =>
      rw [z] at e2
      cases e2
      obtain ⟨b, xs, rfl, h1, h2⟩ := r1.w0.asL s1.wd z
      exact .inr ⟨b, xs, rfl, .inl (.inl h1), fun p hp => h.okS (step_new s1.wd hp) (rel_newL s1.wd hp h2.reverse)⟩⟩

/-! ### a, b = x, y -/
@[simp] def sPar (i j : Nat) (f : DenL) : DenS := fun env st => (f env st).then env fun l st => match l with
  | [x, y] => match (setE env i (.d x)).bind fun env => setE env j (.d y) with
    | some env => .nx env st
    | none => .no
  | _ => .no
@[simp] def sPar3 (i j k : Nat) (f : DenL) : DenS := fun env st => (f env st).then env fun l st => match l with
  | [x, y, z] => match ((setE env i (.d x)).bind fun env => setE env j (.d y)).bind fun env => setE env k (.d z) with
    | some env => .nx env st
    | none => .no
  | _ => .no
variable {i j : Nat} {x y z : Str} {e1 e2 e3 : Expr} {f : DenL} {px py pz pt pt2 : Pos} {kt k2 : Nat}
theorem rs_par (ha : RA c X Wx [e1, e2] f) (hi : X.N[i]? = some x := by rfl) (hj : X.N[j]? = some y := by rfl) (hij : i ≠ j := by decide) (hx : X.env.scope.names.lookup x = some .local := by rfl) (hy : X.env.scope.names.lookup y = some .local := by rfl)
    (hw : swappedStores [.Tuple [.Name x px, .Name y py] kt pt] (.Tuple [e1, e2] k2 pt2) X.env = pure (some [x, y]) := by rfl)
    (hs : swapsWithSole [.Tuple [.Name x px, .Name y py] kt pt] (.Tuple [e1, e2] k2 pt2) pos.line X.env = pure false := by rfl) (hc : X.calm = true := by rfl) :
    RS c X Wx (.Assign [.Tuple [.Name x px, .Name y py] kt pt] (.Tuple [e1, e2] k2 pt2) pos) (sPar i j f) := ⟨fun am => by
  obtain ⟨t1, p1, v1⟩ := ha.ex am.am am.tk
  refine ⟨_, ps_par hc am.am.nd hi hj hij hx hy p1 hw hs, fun σ H env m st D E w h => v1 σ H env m st _ E w (h.bind (RA := RL_ c.g m) E fun l st' vs H' _ s r h => ?_)⟩
  split at h
  · cases r with
    | cons r1 r =>
      cases r with
      | cons r2 r =>
        cases r
        refine ⟨_, _, rfl, ?_⟩
        split at h
        · rename_i env1 z1
          rw [Option.bind_eq_some_iff] at z1
          obtain ⟨env2, a1, a2⟩ := z1
          obtain ⟨h1, rfl⟩ := setE_some a1
          obtain ⟨h2, rfl⟩ := setE_some a2
          exact h _ m H' (.refl s.wd) (((E.ext s.ext s.pre).set (s := .d _) h1 r1).set (s := .d _) h2 r2)
        · exact h.elim
  · exact h.elim⟩
theorem rs_par3 {k : Nat} (ha : RA c X Wx [e1, e2, e3] f) (hi : X.N[i]? = some x := by rfl) (hj : X.N[j]? = some y := by rfl) (hk : X.N[k]? = some z := by rfl) (hij : i ≠ j := by decide) (hik : i ≠ k := by decide) (hjk : j ≠ k := by decide) (hx : X.env.scope.names.lookup x = some .local := by rfl) (hy : X.env.scope.names.lookup y = some .local := by rfl)
    (hz : X.env.scope.names.lookup z = some .local := by rfl)
    (hw : swappedStores [.Tuple [.Name x px, .Name y py, .Name z pz] kt pt] (.Tuple [e1, e2, e3] k2 pt2) X.env = pure (some [x, y, z]) := by rfl)
    (hs : swapsWithSole [.Tuple [.Name x px, .Name y py, .Name z pz] kt pt] (.Tuple [e1, e2, e3] k2 pt2) pos.line X.env = pure false := by rfl) (hc : X.calm = true := by rfl) :
    RS c X Wx (.Assign [.Tuple [.Name x px, .Name y py, .Name z pz] kt pt] (.Tuple [e1, e2, e3] k2 pt2) pos) (sPar3 i j k f) := ⟨fun am => by
  obtain ⟨t1, p1, v1⟩ := ha.ex am.am am.tk
  refine ⟨_, ps_par3 hc am.am.nd hi hj hk hij hik hjk hx hy hz p1 hw hs, fun σ H env m st D E w h => v1 σ H env m st _ E w (h.bind (RA := RL_ c.g m) E fun l st' vs H' _ s r h => ?_)⟩
  split at h
  · cases r with
    | cons r1 r =>
      cases r with
      | cons r2 r =>
        cases r with
        | cons r3 r =>
          cases r
          refine ⟨_, _, _, rfl, ?_⟩
          split at h
          · rename_i env1 z1
            rw [Option.bind_eq_some_iff] at z1
            obtain ⟨env3, z1, a3⟩ := z1
            rw [Option.bind_eq_some_iff] at z1
            obtain ⟨env2, a1, a2⟩ := z1
            obtain ⟨h1, rfl⟩ := setE_some a1
            obtain ⟨h2, rfl⟩ := setE_some a2
            obtain ⟨h3, rfl⟩ := setE_some a3
            exact h _ m H' (.refl s.wd) ((((E.ext s.ext s.pre).set (s := .d _) h1 r1).set (s := .d _) h2 r2).set h3 r3)
          · exact h.elim
  · exact h.elim⟩

/-! ### the call of a local that holds a def -/
@[simp] def eCallV (fn : List Str) (R : Calls) (i : Nat) (f : DenA) : Den := fun env st => match env[i]? with
  | some (some (.d (.fn j))) => if (fn[j]?).isSome then (f env st).bind fun ws st => R j (ws.map W.sv) st else .no
  | _ => .no
theorem re_callv {v : Str} {es : List Expr} {fs : DenA} {p : Pos} (ha : RAs c X Wx (a :: es) fs) (hN : X.N[i]? = some v := by rfl) (hv : Vis X.env.scope v := by first | exact Or.inl rfl | exact Or.inr (Or.inl rfl) | exact Or.inr (Or.inr rfl)) (hd : (v == ("__debug__" : Str)) = false := by decide)
    (hcd : (v == ("__classdict__" : Str)) = false := by decide) (he : starEach (a :: es) X.env = (false, eval a X.env) :: starEach es X.env := by rfl) (hpl : (backTo pos (starEach es X.env)).any (·.1) = false := by rfl) (hc : X.calm = true := by rfl) :
    RE c X Wx (.Call (.Name v p) (a :: es) [] pos) (eCallV c.P.fn c.R i fs) := ⟨fun am tk => by
  obtain ⟨t, pa, va⟩ := ha.ex am tk
  refine ⟨fun σ H Q => ∃ j x, c.P.fn[j]? = some x ∧ σ[i]? = some (some (.ref (c.g.fa j))) ∧ t σ H fun vs H1 => spOf c.g c.R j vs H1 Q (WE Wx σ), ⟨?_⟩, fun σ H env m st Q E w h => ?_⟩
  · rintro pins s σ H Q I ⟨j, x, hx, hs, ht⟩
    obtain ⟨h1, h2, fd, ps, h3, h4⟩ := am.fns j x hx
    apply wpAny_Call_Name_kw
    refine thn ((pe_var (pos := p) hN hv hd hcd).run pins s σ H (fun v H1 => v = .ref (c.g.fa j) ∧ H1 = H) I ⟨_, hs, rfl, rfl⟩) ?_
    rintro u s1 ⟨v1, H1, I1, r1, rfl, rfl⟩
    cases r1
    refine PySem.W.callWith_K (h₀ := X.base) I.ok.mod.kin h2 (thn (pa.run pos pins s1 σ H1 _ I1 ht) ?_) he hpl
    rintro us s2 ⟨vs, H2, I2, r, q⟩
    exact ⟨I2.kIn, run_fnS h3 (am.room hc) h4 (L2N.passAt tk σ) I2 r q⟩
  · unfold eCallV at h
    split at h
    · rename_i j hj
      split at h
      · rename_i hk
        obtain ⟨x, hx⟩ := Option.isSome_iff_exists.mp hk
        obtain ⟨v1, e1, r1⟩ := E.at_ i _ hj
        cases r1
        exact ⟨j, x, hx, e1, va σ H env m st _ E w (Post.bind (RA := RWs_ c.g m) back_w h fun ws st1 _ vs H1 s1 r1 h => ⟨m, st1, ws.map W.sv, s1.wd, r1.sv, h⟩)⟩
      · exact h.elim
    · exact h.elim⟩
end
end DL

/-! DL: a, b = x, y where what is new becomes a cell. -/
namespace DL
open PySem PySem.Spec PyProof.Rows L2
/-- b: the new list becomes a cell -/
def pushM (b : Bool) (w : W) (st : Stor) : Option (SV × Stor) := if b then (match w with
  | .n l => some (.r st.length, st ++ [.lst l])
  | _ => none) else some (w.sv, st)
@[simp] theorem pushM_f {w : W} {st : Stor} : pushM false w st = some (w.sv, st) := rfl
@[simp] theorem pushM_t {l : List D} {st : Stor} : pushM true (.n l) st = some (.r st.length, st ++ [.lst l]) := rfl
def Out.ofP (o : Option (SV × Stor)) (k : SV → Stor → Out) : Out := match o with
  | some (s, st) => k s st
  | none => .no
@[simp] theorem ofP_some {s : SV} {st : Stor} {k : SV → Stor → Out} : Out.ofP (some (s, st)) k = k s st := rfl
@[simp] def evM : List (Bool × Den) → Envi → Stor → (List SV → Stor → Out) → Out
  | [], _, st, k => k [] st
  | (b, f) :: r, env, st, k => (f env st).then env fun w st => Out.ofP (pushM b w st) fun s st => evM r env st fun ss st => k (s :: ss) st
@[simp] def setsE : Envi → List Nat → List SV → Option Envi
  | env, [], [] => some env
  | env, i :: is, s :: ss => (setE env i s).bind fun env => setsE env is ss
  | _, _, _ => none
@[simp] def sParM (l : List (Bool × Den)) (is : List Nat) : DenS := fun env st => evM l env st fun ss st => match setsE env is ss with
  | some env => .nx env st
  | none => .no
theorem push_step {g : G} {m : Mm} {st st' st2 : Stor} {H H' : Hp} {v : V} {w : W} {b : Bool} {s : SV} (wd : Wd g m st H) (sp : Step g m st H m st' H') (r : RelW g m st' H H' v w) (e : pushM b w st' = some (s, st2)) : ∃ m2, Step g m st H m2 st2 H' ∧ RelS g m2 st2 H' v s := by
  cases b with
  | false =>
    cases e
    exact ⟨m, sp, r.sv⟩
  | true =>
    cases w with
    | d x => cases e
    | r j => cases e
    | n l =>
      cases e
      obtain ⟨p, xs, rfl, h1, h2, h3, h4, h5⟩ := r
      refine ⟨_, step_alloc sp.wd h1 h2 h4 h5 sp wd, p, rfl, ?_⟩
      show (m.ad ++ [p])[st'.length]? = some p
      rw [← sp.wd.len]
      simp
section
variable {c : Cf} {X : Cx} {Wx : WX}
structure RAm (c : Cf) (X : Cx) (Wx : WX) (es : List Expr) (l : List (Bool × Den)) : Prop where
  ex : AmbS c X Wx → ∃ t, PA X es t ∧ ∀ σ H env m st D (k : List SV → Stor → Out) (Q : List V → Hp → Prop), EnvR c.g m st H σ env → Wd c.g m st H → PostS c.g m Wx st H (evM l env st k) D →
    (∀ ss vs m' st' H', Step c.g m st H m' st' H' → RelSs c.g m' st' H' vs ss → PostS c.g m' Wx st' H' (k ss st') D → Q vs H') → t σ H Q
theorem ram_nil : RAm c X Wx [] [] := ⟨fun am => ⟨_, pa_nil, fun σ H env m st D k Q E w h q => q [] [] m st H (.refl w) .nil h⟩⟩
theorem ram_cons {e : Expr} {es : List Expr} {b : Bool} {f : Den} {l : List (Bool × Den)} (he : RE c X Wx e f) (hr : RAm c X Wx es l) (hs : starEach (e :: es) X.env = (false, eval e X.env) :: starEach es X.env := by rfl) : RAm c X Wx (e :: es) ((b, f) :: l) := ⟨fun am => by
  obtain ⟨t1, p1, v1⟩ := he.ex am.am am.tk
  obtain ⟨t2, p2, v2⟩ := hr.ex am
  refine ⟨_, pa_cons p1 p2 hs, fun σ H env m st D k Q E w h q => v1 σ H env m st _ E w (h.bind0 (RA := RW_ c.g m) E fun a st' v H' _ s r h => ?_)⟩
  cases z : pushM b a st' with
  | none => rw [z] at h; exact h.elim
  | some p =>
    obtain ⟨sv, st2⟩ := p
    rw [z] at h
    obtain ⟨m2, s2, r2⟩ := push_step w s r z
    refine v2 σ H' env m2 st2 D _ _ (E.ext s2.ext s2.pre) s2.wd (h.moved s2) fun ss vs m' st' H2 s3 r3 h3 => ?_
    exact q (sv :: ss) (v :: vs) m' st' H2 (s2.trans s3) (.cons (r2.ext s3.ext s3.pre.pad) r3) h3⟩
section
variable {i j k : Nat} {x y z : Str} {e1 e2 e3 : Expr} {l : List (Bool × Den)} {px py pz pt pt2 pos : Pos} {kt k2 : Nat}
theorem rs_parM (ha : RAm c X Wx [e1, e2] l) (hi : X.N[i]? = some x := by rfl) (hj : X.N[j]? = some y := by rfl) (hij : i ≠ j := by decide) (hx : X.env.scope.names.lookup x = some .local := by rfl) (hy : X.env.scope.names.lookup y = some .local := by rfl)
    (hw : swappedStores [.Tuple [.Name x px, .Name y py] kt pt] (.Tuple [e1, e2] k2 pt2) X.env = pure (some [x, y]) := by rfl)
    (hs : swapsWithSole [.Tuple [.Name x px, .Name y py] kt pt] (.Tuple [e1, e2] k2 pt2) pos.line X.env = pure false := by rfl) (hc : X.calm = true := by rfl) :
    RS c X Wx (.Assign [.Tuple [.Name x px, .Name y py] kt pt] (.Tuple [e1, e2] k2 pt2) pos) (sParM l [i, j]) := ⟨fun am => by
  obtain ⟨t1, p1, v1⟩ := ha.ex am
  refine ⟨_, ps_par hc am.am.nd hi hj hij hx hy p1 hw hs, fun σ H env m st D E w h => v1 σ H env m st D _ _ E w h fun ss vs m' st' H' s r h => ?_⟩
  match ss, vs, r, h with
  | [s1, s2], [v1, v2], .cons r1 (.cons r2 .nil), h =>
    refine ⟨_, _, rfl, ?_⟩
    simp only [setsE] at h
    cases z1 : setE env i s1 with
    | none => rw [z1] at h; exact h.elim
    | some env1 =>
      rw [z1] at h
      simp only [Option.bind_some] at h
      cases z2 : setE env1 j s2 with
      | none => rw [z2] at h; exact h.elim
      | some env2 =>
        rw [z2] at h
        obtain ⟨h1, rfl⟩ := setE_some z1
        obtain ⟨h2, rfl⟩ := setE_some z2
        exact h _ m' H' (.refl s.wd) (((E.ext s.ext s.pre).set h1 r1).set h2 r2)
  | [], _, _, h => exact h.elim
  | [_], _, _, h => simp only [setsE] at h; cases z1 : setE env i _ <;> (rw [z1] at h; exact h.elim)
  | _ :: _ :: _ :: _, _, _, h =>
    simp only [setsE] at h
    cases z1 : setE env i _ with
    | none => rw [z1] at h; exact h.elim
    | some env1 =>
      rw [z1] at h
      simp only [Option.bind_some] at h
      cases z2 : setE env1 j _ <;> (rw [z2] at h; exact h.elim)⟩
theorem rs_par3M (ha : RAm c X Wx [e1, e2, e3] l) (hi : X.N[i]? = some x := by rfl) (hj : X.N[j]? = some y := by rfl) (hk : X.N[k]? = some z := by rfl) (hij : i ≠ j := by decide) (hik : i ≠ k := by decide) (hjk : j ≠ k := by decide) (hx : X.env.scope.names.lookup x = some .local := by rfl) (hy : X.env.scope.names.lookup y = some .local := by rfl) (hz : X.env.scope.names.lookup z = some .local := by rfl)
    (hw : swappedStores [.Tuple [.Name x px, .Name y py, .Name z pz] kt pt] (.Tuple [e1, e2, e3] k2 pt2) X.env = pure (some [x, y, z]) := by rfl)
    (hs : swapsWithSole [.Tuple [.Name x px, .Name y py, .Name z pz] kt pt] (.Tuple [e1, e2, e3] k2 pt2) pos.line X.env = pure false := by rfl) (hc : X.calm = true := by rfl) :
    RS c X Wx (.Assign [.Tuple [.Name x px, .Name y py, .Name z pz] kt pt] (.Tuple [e1, e2, e3] k2 pt2) pos) (sParM l [i, j, k]) := ⟨fun am => by
  obtain ⟨t1, p1, v1⟩ := ha.ex am
  refine ⟨_, ps_par3 hc am.am.nd hi hj hk hij hik hjk hx hy hz p1 hw hs, fun σ H env m st D E w h => v1 σ H env m st D _ _ E w h fun ss vs m' st' H' s r h => ?_⟩
  have E' := E.ext s.ext s.pre
  match ss, vs, r, h with
  | [], _, _, h => exact h.elim
  | s1 :: ss, v1 :: vs, .cons r1 r, h =>
    simp only [setsE] at h
    cases z1 : setE env i s1 with
    | none => rw [z1] at h; exact h.elim
    | some env1 =>
      rw [z1] at h
      simp only [Option.bind_some] at h
      match ss, vs, r, h with
      | [], _, _, h => exact h.elim
      | s2 :: ss, v2 :: vs, .cons r2 r, h =>
        simp only [setsE] at h
        cases z2 : setE env1 j s2 with
        | none => rw [z2] at h; exact h.elim
        | some env2 =>
          rw [z2] at h
          simp only [Option.bind_some] at h
          match ss, vs, r, h with
          | [], _, _, h => exact h.elim
          | s3 :: ss, v3 :: vs, .cons r3 r, h =>
            simp only [setsE] at h
            cases z3 : setE env2 k s3 with
            | none => rw [z3] at h; exact h.elim
            | some env3 =>
              rw [z3] at h
              simp only [Option.bind_some] at h
              match ss, vs, r, h with
              | [], [], .nil, h =>
                obtain ⟨h1, rfl⟩ := setE_some z1
                obtain ⟨h2, rfl⟩ := setE_some z2
                obtain ⟨h3, rfl⟩ := setE_some z3
                exact ⟨_, _, _, rfl, h _ m' H' (.refl s.wd) (((E'.set h1 r1).set h2 r2).set h3 r3)⟩
              | _ :: _, _, _, h => exact h.elim⟩
end
/-! the same where the stores are not swapped: a tuple is made and unpacked -/
structure RGm (c : Cf) (X : Cx) (es : List Expr) (is : List Nat) : Prop where
  ex : Amb c X → ∃ t, PGs X es t ∧ ∀ vs ss σ H env env' m st Q, EnvR c.g m st H σ env → RelSs c.g m st H vs ss → setsE env is ss = some env' → (∀ σ', EnvR c.g m st H σ' env' → Q σ' H) → t vs σ H Q
theorem rgm_nil : RGm c X [] [] := ⟨fun _ => ⟨_, pgs_nil, fun vs ss σ H env env' m st Q E r e q => by
  cases r with
  | nil =>
    cases e
    exact ⟨rfl, q σ E⟩
  | cons _ _ => cases e⟩⟩
theorem rgm_cons {x : Str} {i : Nat} {pos : Pos} {es : List Expr} {is : List Nat} (h2 : RGm c X es is) (hi : X.N[i]? = some x := by rfl) (hx : Loc X.env.scope x := by first | exact Or.inl rfl | exact Or.inr rfl) (hf : X.fn x = true ∨ X.env.scope.names.lookup x = some .local := by first | exact .inl rfl | exact .inr rfl)
    (hs : (assignEach (.Name x pos :: es) X.env).map (·.2) = assign (.Name x pos) X.env :: (assignEach es X.env).map (·.2) := by rfl) : RGm c X (.Name x pos :: es) (i :: is) := ⟨fun am => by
  obtain ⟨t, p, v⟩ := h2.ex am
  refine ⟨_, pgs_cons (pg_name am.nd hi hx hf) p hs, fun vs ss σ H env env' m st Q E r e q => ?_⟩
  match vs, ss, r, e with
  | [], [], .nil, e => cases e
  | v1 :: vs, s1 :: ss, .cons r1 r2, e =>
    simp only [setsE] at e
    cases z : setE env i s1 with
    | none => rw [z] at e; cases e
    | some env1 =>
      rw [z] at e
      obtain ⟨h1, rfl⟩ := setE_some z
      exact ⟨v1, vs, rfl, v vs ss _ H _ env' m st Q (E.set h1 r1) r2 e q⟩⟩
theorem relSs_len {g : G} {m : Mm} {st : Stor} {H : Hp} : ∀ {vs : List V} {ss : List SV}, RelSs g m st H vs ss → vs.length = ss.length
  | _, _, .nil => rfl
  | _, _, .cons _ t => by rw [List.length_cons, List.length_cons, relSs_len t]
theorem setsE_len : ∀ {is : List Nat} {ss : List SV} {env env' : Envi}, setsE env is ss = some env' → ss.length = is.length
  | [], [], _, _, _ => rfl
  | [], _ :: _, _, _, e => by cases e
  | _ :: _, [], _, _, e => by cases e
  | i :: is, s :: ss, env, env', e => by
    simp only [setsE] at e
    cases z : setE env i s with
    | none => rw [z] at e; cases e
    | some env1 =>
      rw [z] at e
      rw [List.length_cons, List.length_cons, setsE_len e]
theorem relSs_ext {g : G} {m m' : Mm} {st st' : Stor} {H H' : Hp} (e : Ext m st H m' st' H') (p : Pad m m') : ∀ {vs : List V} {ss : List SV}, RelSs g m st H vs ss → RelSs g m' st' H' vs ss
  | _, _, .nil => .nil
  | _, _, .cons r t => .cons (r.ext e p) (relSs_ext e p t)
theorem rs_unpM {l : List (Bool × Den)} {is : List Nat} {es tgs : List Expr} {kt k2 : Nat} {pt pt2 pos : Pos} (ha : RAm c X Wx es l) (hg : RGm c X tgs is) (hlen : decide (is.length ≤ 100) = true := by rfl)
    (hn : (assignEach tgs X.env).length = is.length := by rfl) (hst : (assignEach tgs X.env).findIdx? (·.1) = none := by rfl) (hc : X.calm = true := by rfl)
    (hs : swapsWithSole [.Tuple tgs kt pt] (.Tuple es k2 pt2) pos.line X.env = pure false := by rfl) (hw : swappedStores [.Tuple tgs kt pt] (.Tuple es k2 pt2) X.env = pure none := by rfl)
    (h1 : (assignEach [.Tuple tgs kt pt] X.env).map (·.2) = [assign (.Tuple tgs kt pt) X.env] := by rfl) : RS c X Wx (.Assign [.Tuple tgs kt pt] (.Tuple es k2 pt2) pos) (sParM l is) := ⟨fun am => by
  obtain ⟨t1, p1, v1⟩ := ha.ex am
  obtain ⟨t2, p2, v2⟩ := hg.ex am.am
  refine ⟨_, ps_asg (pe_tup p1) (pg_tup hc p2 hn hst) hs hw h1, fun σ H env m st D E w h => v1 σ H env m st D _ _ E w h fun ss vs m' st' H' s r h => ?_⟩
  cases z : setsE env is ss with
  | none => rw [z] at h; exact h.elim
  | some env' =>
    rw [z] at h
    have hl := (relSs_len r).trans (setsE_len z)
    have hb := of_decide_eq_true hlen
    refine ⟨by rw [hl, sizeLine_eq]; omega, fun p hp => ?_⟩
    have sn := step_new (o := .tup vs) s.wd hp
    refine ⟨p, vs, rfl, .inl (.inl upd_same), hl, v2 vs ss σ _ env env' m' st' _ ((E.ext s.ext s.pre).ext sn.ext sn.pre) (relSs_ext sn.ext sn.pre.pad r) z fun σ' E' => h σ' m' _ sn E'⟩⟩
end
end DL

/-! DL: a lambda that is handed to the def that tells errors. -/
namespace DL
open PySem PySem.Spec PyProof.Rows L2 LamX

/-! ### the making -/
/-- but for the table at P all is kept, what is new is no table -/
def MadeAt (P : Addr) (H H1 : Hp) : Prop := (∀ b o, H b = some o → b ≠ P → H1 b = some o) ∧ (∀ b, H b ≠ none → H1 b ≠ none) ∧ ∃ ps, H P = some (.tbl ps)
section
variable {X : Cx} {pins : List (Addr × Obj)} {σ : L2.St} {H : Hp} {s : Shared}
theorem lam_made {T : List (Addr × Str)} {c P : Addr} {params : Arguments} {body : Expr} {scope : Scope} {pos : Pos} {E Q : Value → Shared → Prop} (I : Inv X pins σ H s) (TB : TabB X.base X.mg c P) (hcode : X.env.code = .ref c) (hm : (P, X.env.qual ++ "<lambda>") ∈ T)
    (hu : ∀ p ∈ T, p.1 = P → p.2 = X.env.qual ++ "<lambda>") (hT : Tabs T H) (hdef : defaultsOf params X.env = ([], [])) (hfree : ∀ y ∈ scope.names, y.2 = .free → ∃ c, X.env.cells.lookup y.1 = some c)
    (h : ∀ (f c' : Addr) (pm ctv : Value) (H1 : Hp) (s' : Shared), Inv X pins σ H1 s' → MadeAt P H H1 → Tabs T H1 → s'.heap.get? f = some (PySem.W.kla_obj "<lambda>" (X.env.qual ++ "<lambda>") params body scope (cloFrom X.env.cells scope.names []) pm c' ctv) →
      H1 f = none → f ∉ frs X.stack → H1 c' = some (CodeO c' (X.env.qual ++ "<lambda>")) → Q (.ref f) s') : wpAny (model X.prog X.w) X.A (eval (.Lambda params body scope pos) X.env) Q E s := by
  have tab := hT _ hm
  obtain ⟨ps, hP, ht, ha⟩ := tab
  apply PySem.W.kla_eval hdef
  have bP := TB.bm.keeps I.bk
  have hP' : s.heap.get? P = some { cls := .none, data := .fields ps } := I.hok P _ hP
  have young : ∀ b, s.heap.objs.size ≤ b → b ∉ frs X.stack := by
    intro b hb hmem
    rcases List.mem_cons.mp (I.stkSub _ hmem) with e | e
    · have l1 : b < s.heap.objs.size := e ▸ I.lt
      exact absurd (Nat.lt_of_lt_of_le l1 hb) (Nat.lt_irrefl _)
    · exact I.nofs hb e
  match hc : codeAmong pos ps.toList with
  | some cv =>
    obtain ⟨c', rfl, hco⟩ := ha pos cv hc
    apply PySem.W.kla_makeFunctionHit (mg := X.mg) (c := c) (P := P) (ps := ps) (closure_ok hfree) I.ok.glob (I.mod.glob.keeps I.bk) hcode (TB.code.keeps I.bk) hP' ht hc bP
    intro ctv h' tk hx hsz
    exact h h'.objs.size c' ((X.mg "__name__").getD .none) ctv H _ (I.kept (t' := tk) fun b o e => Heap.get?_push_of_some _ (hx b o e)) ⟨fun _ _ e _ => e, fun _ e => e, ps, hP⟩ hT (Heap.get?_push_size _ rfl) (I.hok.fresh hsz) (young _ hsz) hco
  | none =>
    apply PySem.W.kla_makeFunction (mg := X.mg) (c := c) (P := P) (ps := ps) (closure_ok hfree) I.ok.glob (I.mod.glob.keeps I.bk) hcode (TB.code.keeps I.bk) hP' ht hc TB.gP bP
    intro c' ctv h' tk hx hge hlt hrec htb
    obtain ⟨c2, oc, vs, t, e2, hoc, hd, hv⟩ := hrec
    cases e2
    have hsz : s.heap.objs.size ≤ h'.objs.size := by omega
    have nC : H c' = none := I.hok.fresh hge
    have nCP : c' ≠ P := fun z => by rw [z, hP] at nC; cases nC
    have J := inv_table (t' := tk) (more := #[rawInt pos.line, rawInt pos.col, .ref c']) (q := X.env.qual ++ "<lambda>") (h' := h'.push (PySem.W.kla_obj "<lambda>" (X.env.qual ++ "<lambda>") params body scope (cloFrom X.env.cells scope.names []) ((X.mg "__name__").getD .none) c' ctv)) I hP
      (fun b o hb e => Heap.get?_push_of_some _ (hx b o hb e)) (Heap.get?_push_of_some _ htb) hge ⟨oc, vs, t, Heap.get?_push_of_some _ hoc, hd, hv⟩
    have at_ : ∀ b, b ≠ P → b ≠ c' → upd (upd H P (.tbl (ps ++ #[rawInt pos.line, rawInt pos.col, .ref c']))) c' (CodeO c' (X.env.qual ++ "<lambda>")) b = H b := fun b n1 n2 => by rw [upd_ne n2, upd_ne n1]
    have atP : upd (upd H P (.tbl (ps ++ #[rawInt pos.line, rawInt pos.col, .ref c']))) c' (CodeO c' (X.env.qual ++ "<lambda>")) P = some (.tbl (ps ++ #[rawInt pos.line, rawInt pos.col, .ref c'])) := by rw [upd_ne (Ne.symm nCP), upd_same]
    have keep : ∀ b o, H b = some o → b ≠ P → upd (upd H P (.tbl (ps ++ #[rawInt pos.line, rawInt pos.col, .ref c']))) c' (CodeO c' (X.env.qual ++ "<lambda>")) b = some o := fun b o e n => (at_ b n (ne_of_none e nC)).trans e
    have eL : (ps ++ #[rawInt pos.line, rawInt pos.col, .ref c']).toList = ps.toList ++ [rawInt pos.line, rawInt pos.col, .ref c'] := by simp
    refine h h'.objs.size c' ((X.mg "__name__").getD .none) ctv _ _ J ⟨keep, fun b hb => ?_, ps, hP⟩ ?_ (Heap.get?_push_size _ rfl) ?_ (young _ hsz) upd_same
    · by_cases z : b = P
      · rw [z, atP]; exact fun z => nomatch z
      · cases q : H b with
        | none => exact absurd q hb
        | some o => rw [keep b o q z]; exact fun z => nomatch z
    · intro p hp
      by_cases z : p.1 = P
      · rw [hu p hp z, z]
        refine ⟨_, atP, by rw [eL]; exact PySem.TriplesOk_snoc _ _ _ _ ht, fun p' cv hcv => ?_⟩
        rw [eL] at hcv
        rcases among_app _ ht hcv with y | y
        · obtain ⟨c0, e1, e2⟩ := ha p' cv y
          exact ⟨c0, e1, keep _ _ e2 (fun w => by rw [w, hP] at e2; exact codeO_ne ps (Option.some.inj e2).symm)⟩
        · exact ⟨c', y, upd_same⟩
      · obtain ⟨ps', a1, a2, a3⟩ := hT p hp
        refine ⟨ps', keep _ _ a1 z, a2, fun p' cv hcv => ?_⟩
        obtain ⟨c0, e1, e2⟩ := a3 p' cv hcv
        exact ⟨c0, e1, keep _ _ e2 (fun w => by rw [w, hP] at e2; exact codeO_ne ps (Option.some.inj e2).symm)⟩
    · have n2 : h'.objs.size ≠ P := Nat.ne_of_gt (Nat.lt_of_lt_of_le (Heap.lt_size hP') hsz)
      rw [at_ _ n2 (Nat.ne_of_gt hlt)]
      exact I.hok.fresh hsz
end
section
variable {g : G} {m : Mm} {st : Stor} {H H1 : Hp} {P : Addr}
theorem ext_made (k : MadeAt P H H1) : Ext m st H m st H1 := ⟨fun a o e n z => ⟨k.1 a o e (fun w => by obtain ⟨ps, q⟩ := k.2.2; rw [w, q] at e; exact n ps (Option.some.inj e).symm), z⟩, k.2.1⟩
theorem step_made (w : Wd g m st H) (k : MadeAt P H H1) (T : Tabs g.T H1) : Step g m st H m st H1 := by
  obtain ⟨ps, hP⟩ := k.2.2
  have hid : ∀ a ∈ m.hid, H1 a = H a := fun a ha => by
    rcases w.hids a ha with ⟨xs, e⟩ | ⟨xs, e⟩ <;> exact (k.1 a _ e (fun z => by rw [z, hP] at e; cases e)).trans e.symm
  refine ⟨⟨w.len, w.nd, fun a ha => k.2.1 a (w.there a ha), fun a ha => by rw [hid a ha]; exact w.hids a ha, w.dj, fun i a c h1 h2 => ?_, T⟩, ext_made k, .refl _, fun a ha => hid a ha⟩
  cases c with
  | dead => trivial
  | lst ds =>
    obtain ⟨vs, e, r⟩ := w.cells i a _ h1 h2
    exact ⟨vs, k.1 a _ e (fun z => by rw [z, hP] at e; cases e), r.ext (ext_made k)⟩
  | dct ds =>
    obtain ⟨vs, e, r⟩ := w.cells i a _ h1 h2
    exact ⟨vs, k.1 a _ e (fun z => by rw [z, hP] at e; cases e), r.ext (ext_made k)⟩
end

/-! ### the call of it -/
/-- the context of the lambda's text -/
abbrev lamCxN (X : Cx) (A : Around) (outer : List Env) (s : Shared) (H : Hp) (E : XK) (scope : Scope) (f c' : Addr) : Cx :=
  (lamCx X A outer s H E scope f c').wish fun e s' => wpAny (model X.prog X.w) (A.deeper (lamEnv X scope s.heap.objs.size f c')) (leaving (lamEnv X scope s.heap.objs.size f c') e) (fun _ t => L2N.CX X.prog X.w outer H s E e t) (fun e' t => L2N.CX X.prog X.w outer H s E e' t) s'
/-- the context of the def that calls it, entered at s -/
abbrev errCx (X : Cx) (N : List Str) (q : Str) (sc : Scope) (g : Addr) (cd : Value) (s : Shared) (H : Hp) : Cx := cxOf (L2N.CX X.prog X.w) X.prog X.w X.K X.mg X.base N q sc g cd X.A X.stack s H (fun _ _ _ => False)
section
variable {X : Cx} {pins : List (Addr × Obj)} {σ : L2.St} {H : Hp} {s : Shared}
theorem pe_actN {N : List Str} {q a : Str} {sc scope : Scope} {g f c' : Addr} {cd pm ctv : Value} {params : Arguments} {body : Expr} {k i : Nat} {pn : List (Addr × Obj)} {xe : Value → Shared → Prop} {W : WX} {tb : XK → TE} {p1 p2 : Pos}
    (I : Inv X pins σ H s) (L : LamS X.env.scope scope) (hf : s.heap.get? f = some (PySem.W.kla_obj "<lambda>" (X.env.qual ++ "<lambda>") params body scope (cloFrom X.env.cells scope.names []) pm c' ctv)) (hfn : H f = none) (hfr : f ∉ frs X.stack)
    (hbind : bindArgs (PySem.W.kla_fn "<lambda>" (X.env.qual ++ "<lambda>") params body scope (cloFrom X.env.cells scope.names []) pm (.ref c') ctv) ⟨[], []⟩ = pure [])
    (tk : L2N.Takes ((errCx X N q sc g cd s H).tr pn xe) W) (hr : Room (k + 1) (X.A.deeper (envOfC q sc s.heap.objs.size g cd)))
    (hbody : ∀ (E : XK) (A : Around) (outer : List Env) (s : Shared) (H : Hp), Room k (A.deeper (lamEnv X scope s.heap.objs.size f c')) → PE (lamCxN X A outer s H E scope f c') body (tb E))
    (hN : N[i]? = some a) (hv : Vis sc a) (hd : (a == ("__debug__" : Str)) = false) (hcd : (a == ("__classdict__" : Str)) = false) :
    PE ((errCx X N q sc g cd s H).tr pn xe) (.Call (.Name a p1) [] [] p2) (fun σZ HZ Q => ∃ E : XK, (∀ cls d H', E cls d H' → W cls d σZ H') ∧ σZ[i]? = some (some (.ref f)) ∧ HZ c' = some (CodeO c' (X.env.qual ++ "<lambda>")) ∧ tb E σ HZ Q) := by
  constructor
  rintro pinsZ sZ σZ HZ Q IZ ⟨E, hW, hs, hc, ht⟩
  apply wpAny_Call_Name_kw
  refine thn ((pe_var (pos := p1) (i := i) hN hv hd hcd).run pinsZ sZ σZ HZ (fun v H1 => v = .ref f ∧ H1 = HZ) IZ ⟨.ref f, hs, rfl, rfl⟩) ?_
  rintro u s1 ⟨v, H1, I1, r1, rfl, rfl⟩
  obtain rfl : u = Value.ref f := r1
  have of1 := I1.base.keep f _ hf hfn hfr (fun z => nomatch (show f ∈ ([] : List Addr) from z))
  apply PySem.W.callWith_F0 ⟨_, _, _, _, of1⟩
  have un : Un (frs X.stack) [] H H1 s.heap s1.heap := I1.base
  obtain ⟨⟨oc, vs, t, hoc, hdc, hvc⟩, _, _⟩ := I1.hok c' _ hc
  have rc : codeAny (model X.prog X.w) (X.A.deeper (envOfC q sc s.heap.objs.size g cd)) (.call (.ref f) ⟨[], []⟩) (CR (L2N.CX X.prog X.w) (envOfC q sc s.heap.objs.size g cd :: X.stack) X.prog X.w H1 s1 Q E) s1 := by
    apply PySem.W.kla_callFunE hr.depth of1 rfl L.co L.gen rfl ⟨c', oc, vs, t, rfl, hoc, hdc, hvc⟩
    rw [hbind]
    refine wpAny_pure (wpAny_newFunctionEnv (fun y hy => (L.own y hy).2) (fun y hy => absurd hy (by simp)) ?_ L.kind)
    intro h₁ hns hsb
    refine ⟨I1.nolimit.fresh _ hsb, ?_⟩
    show codeAny _ _ (.expr body (lamEnv X scope s1.heap.objs.size f c')) _ _
    have kp : ∀ b o, s1.heap.get? b = some o → h₁.get? b = some o := fun b o e => hsb.extBut b o (Nat.ne_of_lt (Heap.lt_size e)) (Heap.get?_push_of_some _ e)
    have J := (lam_start2 (A := X.A.deeper (envOfC q sc s.heap.objs.size g cd)) (E := E) (f := f) (c' := c') (tk := s1.toks + ([] : List (Str × Value)).length) I L I1.env0 hr.hd un hns kp).wish (fun e s' => wpAny (model X.prog X.w) ((X.A.deeper (envOfC q sc s.heap.objs.size g cd)).deeper (lamEnv X scope s1.heap.objs.size f c')) (leaving (lamEnv X scope s1.heap.objs.size f c') e)
      (fun _ t => L2N.CX X.prog X.w (envOfC q sc s.heap.objs.size g cd :: X.stack) H1 s1 E e t) (fun e' t => L2N.CX X.prog X.w (envOfC q sc s.heap.objs.size g cd :: X.stack) H1 s1 E e' t) s')
    refine PySem.W.kla_codeExpr (wpAny_mono ((hbody E _ _ s1 H1 (hr.deeper _)).run [] _ _ H1 Q J ht) ?_ fun e s' hq => hq)
    rintro v s' ⟨w', H', J', rv, q'⟩
    exact ⟨w', H', J'.os, J'.bare, J'.base, J'.hok, rv, q'⟩
  refine wpAny_call (codeAny_mono rc ?_)
  intro r s' hq
  match r, hq with
  | .error e, hq => exact tk e s' (L2N.XE.of_call I1 hW hq)
  | .ok (.ret u), hq => exact I1.after hq
  | .ok .next, hq => exact hq.elim
  | .ok .brk, hq => exact hq.elim
  | .ok .cont, hq => exact hq.elim
end

/-! ### another exception that is handled -/
abbrev G.put (g : G) (e : Option (Addr × Value × Option Addr)) : G := { g with ex := e }
section
variable {g : G} {e : Option (Addr × Value × Option Addr)} {m m' : Mm} {st st' : Stor} {H H' : Hp}
mutual
theorem Rel.gx : ∀ {v : V} {d : D}, Rel g m st H v d → Rel (g.put e) m st H v d
  | _, _, .non => .non
  | _, _, .bl b => .bl b
  | _, _, .int i => .int i
  | _, _, .str x => .str x
  | _, _, .tup h r => .tup h (RelL.gx r)
  | _, _, .lst h r => .lst h (RelL.gx r)
  | _, _, .fn i => .fn i
  | _, _, .scr h => .scr h
theorem RelL.gx : ∀ {vs : List V} {ds : List D}, RelL g m st H vs ds → RelL (g.put e) m st H vs ds
  | _, _, .nil => .nil
  | _, _, .cons r t => .cons (Rel.gx r) (RelL.gx t)
end
theorem CellR.gx {a : Addr} : ∀ {c : Cell}, CellR g m st H a c → CellR (g.put e) m st H a c
  | .dead, _ => trivial
  | .lst _, ⟨vs, h1, h2⟩ => ⟨vs, h1, h2.gx⟩
  | .dct _, ⟨vs, h1, h2⟩ => ⟨vs, h1, h2.1, h2.2.gx⟩
theorem Wd.gx (w : Wd g m st H) : Wd (g.put e) m st H := ⟨w.len, w.nd, w.there, w.hids, w.dj, fun i a c h1 h2 => (w.cells i a c h1 h2).gx, w.tabs⟩
theorem Step.gx (s : Step g m st H m' st' H') : Step (g.put e) m st H m' st' H' := ⟨s.wd.gx, s.ext, s.pre, s.hid⟩
theorem ExnR.gx {cls : Value} {d : Option Addr} {x : Exn} (h : ExnR g m st H cls d x) : ExnR (g.put e) m st H cls d x := by
  refine ⟨h.1, ?_⟩
  have h := h.2
  cases q : x.at' with
  | none => rw [q] at h; exact h
  | some fy =>
    rw [q] at h
    obtain ⟨dx, v, k1, k2, k3, k4⟩ := h
    exact ⟨dx, v, k1, k2, k3, k4.gx⟩
end
def tOfS (g : G) (Wx : WX) (f : DenS) : TS := fun D σ H => ∃ env m st, EnvR g m st H σ env ∧ Wd g m st H ∧ PostS g m Wx st H (f env st) D
theorem RSs.pss {c : Cf} {X : Cx} {Wx : WX} {s : List Stmt} {f : DenS} (h : RSs c X Wx s f) (am : AmbS c X Wx) : PSs X s (tOfS c.g Wx f) := by
  obtain ⟨t, p, v⟩ := h.ex am
  exact ⟨fun pins s σ H D I ⟨env, m, st, E, w, q⟩ => p.run pins s σ H D I (v σ H env m st D E w q)⟩

/-! ### the def that tells errors -/
def errEnv (e : ErrI) (x : Exn) : Envi := (List.replicate e.N.length none).set e.n (some (.x x))
abbrev ECx (Pg : Program) (w : World) (K : PySem.W.Frag) (mg : Str → Option Value) (base : Heap) (e : ErrI) (f : Addr) (cdv : Value) (A : Around) (outer : List Env) (s : Shared) (H : Hp) : Cx :=
  cxOf (L2N.CX Pg w) Pg w K mg base e.N e.x (defScope e.st) f cdv A outer s H (fun _ _ _ => False)
abbrev Prg.bare (P : Prg) : Prg := { P with fn := [], er := none }
structure ErrOk (P : Prg) (e : ErrI) (hs : DenS) : Prop where
  sc : FnScope e.N [e.a] (defScope e.st)
  bnd : ∀ (kV doc pm : Value) (an : Option Addr) (cdv ct : Value) (us : List Value), us.length = 1 → bindArgs (PySem.W.fnOf e.x e.x (defArgs e.st) (defBody e.st) (defScope e.st) .none kV doc pm an cdv ct) ⟨us, []⟩ = pure ([e.a].zip us)
  hdE : ∀ x st, e.hd x st = fin st.length (hs (errEnv e x) st)
  par : e.N[0]? = some e.a ∧ Vis (defScope e.st) e.a ∧ (e.a == ("__debug__" : Str)) = false ∧ (e.a == ("__classdict__" : Str)) = false
  bd : ∃ (p1 p2 p3 p4 p5 p6 p7 p8 : Pos) (j : Nat) (xc xn : Str) (b₀ : Stmt) (suite : List Stmt),
    defBody e.st = [.Try [.Expr (.Call (.Name e.a p1) [] [] p2) p3] [.ExceptHandler (some (.Name xc p4)) (some xn) (b₀ :: suite) p5] [] [] p6, .Return (some (.Constant (.str e.ret) j p7)) p8] ∧
    e.N[e.n]? = some xn ∧ (defScope e.st).names.lookup xn = some .local ∧ P.cl[e.c]? = some xc ∧ (defScope e.st).names.lookup xc = some .globalImplicit ∧ (xc == ("__debug__" : Str)) = false ∧
    (∀ env : Env, swapsWith (.Call (.Name e.a p1) [] [] p2) none p3.line env = pure false) ∧
    ∀ (c : Cf) (Pg : Program) (w : World) (K : PySem.W.Frag) (mg : Str → Option Value) (base : Heap) (f : Addr) (cdv : Value) (A : Around) (outer : List Env) (s : Shared) (H : Hp) (a : Addr) (oe : Obj) (cls : Value) (d : Option Addr) (pn : List (Addr × Obj)),
      c.P = P.bare → c.lm = false → c.g.ex = some (a, cls, d) → L2N.Zn cls d oe → (∃ vs, oe.data = .fields vs) → RSs c ((ECx Pg w K mg base e f cdv A outer s H).suite a ((a, oe) :: pn)) WxF (b₀ :: suite) hs
/-- what it makes of a reading of its lambda -/
def eErr (P : Prg) (e : ErrI) (f : Den) : Den := fun env st => match f env st with
  | .ok _ st => .ok (.d (.str e.ret)) st
  | .err x st => if P.sub x.c e.c && (P.cl[x.c]?).isSome then (match e.hd x st with
    | .ok (.d (.str s)) st => .ok (.d (.str s)) st
    | _ => .no) else .no
  | .no => .no
def Cf.lam (c : Cf) : Cf := ⟨{ c.P with er := none }, c.g, c.R2, c.k2, noCalls, 0, false⟩
section
variable {c : Cf} {X : Cx} {Wx : WX}
theorem fin_str {n : Nat} {o : Out} {s : Str} {st : Stor} (h : fin n o = .ok (.d (.str s)) st) : ∃ t, o = .rt (.d (.str s)) t ∧ st = t.take n := by
  cases o with
  | no => cases h
  | bk e t => cases h
  | ct e t => cases h
  | nx e t => cases h
  | er x e t => cases h
  | rt w t =>
    cases w with
    | d x => cases h; exact ⟨t, rfl, rfl⟩
    | n l => cases h
    | r j =>
      have h : (if j < n then Res.ok (W.r j) (t.take n) else .no) = _ := h
      split at h <;> cases h
theorem Amb.toLam (am : Amb c X) (hl : c.lm = true) {A : Around} {outer : List Env} {s : Shared} {H : Hp} {E : XK} {scope : Scope} {f c' : Addr} (hr : Room c.k2 (A.deeper (lamEnv X scope s.heap.objs.size f c'))) : Amb c.lam (lamCxN X A outer s H E scope f c') := by
  obtain ⟨_, fns2, _, _⟩ := am.lam hl
  refine ⟨am.K, ?_, fun _ => hr, am.nd, am.blt, fun i x hx => ?_, am.cls, am.clok, am.con, am.sub, fun z => absurd (show true = false from z) (by decide), fun z => absurd (show false = true from z) (by decide)⟩
  · have := hr.un
    show (A.deeper _).units + 70 < cLine
    omega
  · obtain ⟨h1, h2, _⟩ := am.fns i x hx
    exact ⟨h1, h2, fns2 i x hx⟩
theorem re_err {e : ErrI} {hs : DenS} {p lpos pos : Pos} {params : Arguments} {body : Expr} {scope : Scope} {fb : Den} (he : c.P.er = some e) (ok : ErrOk c.P e hs)
    (hb : ∀ (A : Around) (outer : List Env) (s : Shared) (H : Hp) (E : XK) (f c' : Addr), RE c.lam (lamCxN X A outer s H E scope f c') (fun cls d _ H => E cls d H) body fb)
    (L : LamS X.env.scope scope) (hl : c.lm = true := by rfl) (hg : Gl X e.x := by rfl) (hdef : defaultsOf params X.env = ([], []) := by rfl)
    (hbind : ∀ (q : Str) (cl : List (Str × Addr)) (pm cv ctv : Value), bindArgs (PySem.W.kla_fn "<lambda>" q params body scope cl pm cv ctv) ⟨[], []⟩ = pure [] := by intros; rfl)
    (hdb : (e.x == ("__debug__" : Str)) = false := by decide) (hc : X.calm = true := by rfl) :
    RE c X Wx (.Call (.Name e.x p) [.Lambda params body scope lpos] [] pos) (eErr c.P e fb) := ⟨fun am tk => by
  refine ⟨tOf c.g Wx (eErr c.P e fb), ⟨?_⟩, fun σ H env m st Q E w h => ⟨env, m, st, E, w, h⟩⟩
  rintro pins s σ H Q I ⟨env, m, st, E0, w, h⟩
  obtain ⟨ek, fns2, ⟨cc, P, TB, hcode, hmT, hu⟩, her⟩ := am.lam hl
  obtain ⟨hfn, fd, F⟩ := her e he
  obtain ⟨hm, hk, _⟩ := am.fns e.i e.x hfn
  have F2 := F
  obtain ⟨oc, od, kV, doc, pm, an, cdv, ct, osl, rfl, lk, hcd⟩ := F.ex
  obtain ⟨p1, p2, p3, p4, p5, p6, p7, p8, j, xc, xn, b₀, suite, eB, hN, hln, hxc, hgx, hdx, hsw, hsu⟩ := ok.bd
  obtain ⟨hN0, hv, hda, hcda⟩ := ok.par
  have hr : Room (c.k2 + 2) X.A := ek ▸ am.room hc
  have bnd := F2.binds (ps := [e.a]) ok.bnd
  apply wpAny_Call_Name_kw
  refine ld_glob I hg hm ?_ hdb
  refine PySem.W.callWith_K (h₀ := X.base) I.ok.mod.kin hk ?_ (by rfl) (by rfl)
  show wpAny _ _ (spliced ((false, eval (.Lambda params body scope lpos) X.env) :: backTo pos (starEach [] X.env))) _ _ s
  refine Calls.spliced_cons (lam_made I TB hcode hmT hu w.tabs hdef (L.has I.ok) ?_)
  intro f c' pm' ctv H1 s' I1 mk T1 hf hfnn hfr hco
  have s1 := step_made w mk T1
  refine Calls.spliced_nil ⟨I1.kIn, ?_⟩
  have rc : codeAny (model X.prog X.w) X.A (.call (.ref (c.g.fa e.i)) ⟨[.ref f], []⟩) (CR (L2N.CX X.prog X.w) X.stack X.prog X.w H1 s' Q (fun _ _ _ => False)) s' := by
    refine run_ofS (N := e.N) (ps := [e.a]) (us := [.ref f]) (vs := [.ref f]) lk hcd ok.sc hr I1.env0 (bnd s' [.ref f] I1.kIn rfl) (.cons rfl .nil) rfl ?_
    intro hr'
    rw [eB]
    refine ⟨_, pss_cons (L2N.ps_try_as (X := errCx X e.N e.x (defScope e.st) (c.g.fa e.i) cdv s' H1) (c := .ref (c.g.ca e.c)) (i := e.n) (Wout := WxF)
      (tb := fun W D σZ HZ => ∃ E : XK, (∀ cls d H', E cls d H' → W cls d σZ H') ∧ σZ[0]? = some (some (.ref f)) ∧ HZ c' = some (CodeO c' (X.env.qual ++ "<lambda>")) ∧ tOf c.g (fun cls d _ H => E cls d H) fb σ HZ fun _ H' => D.nx σZ H')
      (ts := fun a cls d => tOfS (c.g.put (some (a, cls, d))) WxF hs) rfl rfl ok.sc.nd hN hln ⟨hgx, hdx, .inl (am.cls e.c xc (Prg.acl_of hxc))⟩ takesN0 (fun W pn xe tkW po => ?_) (fun a oe cls d pn hz hf => ?_)) (pss_one (ps_ret pe_str)), ?_⟩
    · -- the lambda called
      have pa := pe_actN (k := c.k2) (p1 := p1) (p2 := p2) (tb := fun E => tOf c.g (fun cls d _ H => E cls d H) fb) I1 L hf hfnn hfr (hbind _ _ _ _ _) tkW hr' (fun E A outer s H hr2 => (hb A outer s H E f c').pe (am.toLam hl hr2) (L2N.takes_of rfl rfl rfl rfl)) hN0 hv hda hcda
      exact pss_one (ps_expr pa (hsw (errCx X e.N e.x (defScope e.st) (c.g.fa e.i) cdv s' H1).env))
    · -- what is told of the error
      refine (hsu ⟨c.P.bare, c.g.put (some (a, cls, d)), noCalls, 0, noCalls, 0, false⟩ X.prog X.w X.K X.mg X.base (c.g.fa e.i) cdv X.A X.stack s' H1 a oe cls d pn rfl rfl rfl hz hf).pss ⟨⟨am.K, ?_, fun z => absurd (show false = true from z) (by decide), ok.sc.nd, am.blt, fun i x hx => ?_, am.cls, am.clok,
        fun x d hx => ?_, am.sub, fun _ _ => ⟨(a, oe), ⟨rfl, ?_⟩, List.mem_cons_self⟩, fun z => absurd (show false = true from z) (by decide)⟩, takesN0, PassesOwn.never, rfl, rfl⟩
      · have := hr'.un
        show (X.A.deeper (envOfC e.x (defScope e.st) s'.heap.objs.size (c.g.fa e.i) cdv)).units + 70 < cLine
        omega
      · cases hx
      · obtain ⟨u, v, q1, q2, q3⟩ := am.con x d hx
        exact ⟨u, v, q1, q2, fun m st H => (q3 m st H).gx⟩
      · obtain ⟨vs, hv⟩ := hf
        exact ⟨vs, hv, hz.2.2 vs hv⟩
    · have h : Post c.g m σ Wx st H1 (RW_ c.g m) (eErr c.P e fb env st) Q := h.moved back_w s1
      refine ⟨fun cls d H' => ∃ x st', fb env st = .err x st' ∧ Step c.g m st H1 m st' H' ∧ ExnR c.g m st' H' cls d x, fun cls d H' ⟨x, st', q1, q2, q3⟩ => ?_, rfl, hco, env, m, st, E0.ext s1.ext s1.pre, s1.wd, ?_⟩
      · -- an error
        unfold eErr at h
        rw [q1] at h
        dsimp only at h
        by_cases hsub : (c.P.sub x.c e.c && (c.P.cl[x.c]?).isSome) = true
        case neg => rw [if_neg hsub] at h; exact h.elim
        rw [if_pos hsub, ok.hdE] at h
        rw [Bool.and_eq_true, Option.isSome_iff_exists] at hsub
        obtain ⟨hs1, y, hs2⟩ := hsub
        refine ⟨true, ?_, fun _ a na => ?_, fun z => nomatch z⟩
        · rw [q3.1, ← hs1]
          exact (am.sub x.c e.c y xc hs2 (Prg.acl_of hxc)).1
        split at h
        case h_2 => exact h.elim
        rename_i r str st2 hfin
        obtain ⟨t, ho, rfl⟩ := fin_str hfin
        refine ⟨errEnv e x, m, st', ⟨?_, fun i sv hi => ?_⟩, q2.wd.gx, ?_⟩
        · have h0 := (List.getElem?_eq_some_iff.mp hN0).1
          show (List.set (L2.start e.N [V.ref f]) e.n _).length = _
          unfold L2.start errEnv
          simp
          omega
        · unfold errEnv at hi
          by_cases z : e.n = i
          · subst z
            rw [List.getElem?_set_self (by rw [List.length_replicate]; exact (List.getElem?_eq_some_iff.mp hN).1)] at hi
            cases hi
            refine ⟨.ref a, List.getElem?_set_self ?_, a, cls, d, rfl, rfl, q3.gx⟩
            have h0 := (List.getElem?_eq_some_iff.mp hN).1
            unfold L2.start
            simp
            omega
          · rw [List.getElem?_set_ne z, List.getElem?_replicate] at hi
            split at hi <;> cases hi
        · rw [ho]
          intro v m' H3 s3 r3
          obtain rfl : v = .str str := by cases r3; rfl
          have s3' : Step c.g m st' H' m' t H3 := Step.gx (g := c.g.put (some (a, cls, d))) (e := c.g.ex) s3
          exact h _ H3 (q2.trans (step_take q2.wd s3')) (show Rel _ _ _ _ _ _ from .str _)
      · cases q : fb env st with
        | no =>
          unfold eErr at h
          rw [q] at h
          exact h
        | err x st' => exact fun cls d H' s2 r2 => ⟨x, st', rfl, s2, r2⟩
        | ok v st' =>
          unfold eErr at h
          rw [q] at h
          intro b H' s2 r2
          exact h (.str e.ret) H' s2 (show Rel _ _ _ _ _ _ from .str _)
  refine wpAny_call (codeAny_mono rc ?_)
  intro r s2 hq
  match r, hq with
  | .error e, hq =>
    obtain ⟨_, _, _, _, _, _, _, _, _, _, _, _, z⟩ := hq
    exact z.elim
  | .ok (.ret u), hq => exact I1.after hq
  | .ok .next, hq => exact hq.elim
  | .ok .brk, hq => exact hq.elim
  | .ok .cont, hq => exact hq.elim⟩
end
end DL

/-! DL: what is done while an exception is handled. -/
namespace DLHotX
open PySem PySem.Spec PyProof.Rows HotX
section
variable {prog : Program} {w : World} {A : Around} {E : Value → Shared → Prop} {s : Shared}
/-- a new StopIteration, raised -/
theorem stop_hot {α : Type} {x1 : Addr} {Q : α → Shared → Prop} (hot : HotAt A x1 s.heap) (h : ∀ h' a, (∀ b o, s.heap.get? b = some o → h'.get? b = some o) → (∃ o, h'.get? a = some o ∧ o.cls = .type "StopIteration") → E (.ref a) { s with heap := h' }) :
    wpAny (model prog w) A (newExc (.type "StopIteration") [] >>= fun e => (raiseNew e : Sem α)) Q E s := by
  obtain ⟨hh, o1, vs1, h1, d1, c1⟩ := hot
  refine wpAny_bind ?_
  simp only [newExc, newTuple]
  apply wpAny_bind
  refine wpAny_newObj_type ?_ (by size_fits)
  apply wpAny_bind (m := firstArgMember _ _)
  apply wpAny_of_eq (a := Value.none) (by first | rfl | (simp only [firstArgMember]; rfl))
  refine wpAny_newObj_type ?_ (by size_fits)
  have k1 := Heap.get?_push_of_some { cls := .type "StopIteration", data := .fields ([.ref s.heap.objs.size, Value.none, Value.none, Value.none, Value.bool false] ++ [Value.none]).toArray } (Heap.get?_push_of_some { cls := .type "tuple", data := .seq ([] : List Value).toArray } h1)
  refine raiseNew_hot ⟨hh, o1, vs1, Heap.get?_push_of_some _ (Heap.get?_push_of_some _ h1), d1, c1⟩ (Nat.ne_of_lt (Heap.lt_size (Heap.get?_push_of_some _ h1))) (Heap.get?_push_size _ rfl) rfl (by first | (simp; done) | (simp; omega) | (simp only [Array.size_append]; simp; omega)) ?_
  refine h _ _ (fun b o e => ?_) ⟨_, Heap.get?_update_self _ (Heap.get?_push_size _ rfl) rfl, rfl⟩
  have e2 := Heap.get?_push_of_some { cls := .type "tuple", data := .seq ([] : List Value).toArray } e
  rw [Heap.get?_update_other _ _ (Nat.ne_of_gt (Heap.lt_size e2))]
  exact Heap.get?_push_of_some _ e2
theorem next_list_end_hot {it l x1 : Addr} {i : Nat} {items : Array Value} {Q : Option Value → Shared → Prop} (hot : HotAt A x1 s.heap) (hne : x1 ≠ it) (hit : s.heap.IsListIter it l i) (hl : s.heap.IsList l items) (hx : items[i]? = none)
    (hQ : ∀ h', Heap.ExtBut it s.heap h' → Q none { s with heap := h' }) : wpAny (model prog w) A (pyNext (.ref it)) Q E s := by
  obtain ⟨o, ho, hc, hd⟩ := id hit
  obtain ⟨ol, hol, _, nl, hdl⟩ := hl
  obtain ⟨hh, o1, vs1, h1, d1, c1⟩ := hot
  unfold pyNext
  refine wpAny_bind (wpAny_attempt (wpAny_callSpecial?_slot (name := Str.ofString "__next__") hit.typeIs slot_listiter_next (wpAny_call_entry slot_listiter_next hit.typeIs entry_listiter_next ?_ (args_listiter_next _))))
  show wpAny _ _ (field (.ref it) 0 >>= _) _ _ s
  apply wpAny_bind (wpAny_field ho hd (x := .ref l) rfl _)
  show wpAny _ _ (if (Value.ref l == Value.none) = true then _ else _) _ _ s
  rw [if_neg (show ¬ ((Value.ref l == Value.none) = true) from Bool.false_ne_true)]
  show wpAny _ _ (field (.ref it) 1 >>= _) _ _ s
  apply wpAny_bind (wpAny_field ho hd (x := .int i 0) rfl _)
  show wpAny _ _ (seqItems? (.ref l) >>= _) _ _ s
  apply wpAny_bind (wpAny_seqItems hol hdl _)
  simp only [Int.toNat_natCast, hx]
  apply wpAny_bind
  apply wpAny_rule
  apply wpAny_bind (wpAny_setField ho hd (by simp) _)
  refine stop_hot (x1 := x1) ⟨hh, o1, vs1, ?_, d1, c1⟩ fun h' a k ho' => ?_
  · rw [Heap.get?_update_other _ _ (Ne.symm hne)]
    exact h1
  · obtain ⟨o', e1, e2⟩ := ho'
    apply wpAny_bind
    refine wpAny_isInstance (T := "StopIteration") (b := true) ⟨o', e1, e2⟩ isSubtype_stop ?_
    refine wpAny_pure (hQ _ fun b ob hb e => k b ob ?_)
    rw [Heap.get?_update_other _ _ (Ne.symm hb)]
    exact e
theorem next_tuple_end_hot {it t x1 : Addr} {i : Nat} {items : Array Value} {Q : Option Value → Shared → Prop} (hot : HotAt A x1 s.heap) (hne : x1 ≠ it) (hit : IsTupIter s.heap it t i) (ht : IsTup s.heap t items) (hx : items[i]? = none)
    (hQ : ∀ h', Heap.ExtBut it s.heap h' → Q none { s with heap := h' }) : wpAny (model prog w) A (pyNext (.ref it)) Q E s := by
  obtain ⟨o, ho, hc, hd⟩ := id hit
  obtain ⟨ol, hol, _, nl, hdl⟩ := ht
  obtain ⟨hh, o1, vs1, h1, d1, c1⟩ := hot
  unfold pyNext
  refine wpAny_bind (wpAny_attempt (wpAny_callSpecial?_slot (name := Str.ofString "__next__") hit.typeIs slot_tupleiter_next (wpAny_call_entry slot_tupleiter_next hit.typeIs entry_tupleiter_next ?_ (args_tupleiter_next _))))
  show wpAny _ _ (field (.ref it) 0 >>= _) _ _ s
  apply wpAny_bind (wpAny_field ho hd (x := .ref t) rfl _)
  show wpAny _ _ (if (Value.ref t == Value.none) = true then _ else _) _ _ s
  rw [if_neg (show ¬ ((Value.ref t == Value.none) = true) from Bool.false_ne_true)]
  show wpAny _ _ (field (.ref it) 1 >>= _) _ _ s
  apply wpAny_bind (wpAny_field ho hd (x := .int i 0) rfl _)
  show wpAny _ _ (seqItems? (.ref t) >>= _) _ _ s
  apply wpAny_bind (wpAny_seqItems hol hdl _)
  simp only [Int.toNat_natCast, hx]
  apply wpAny_bind
  apply wpAny_rule
  apply wpAny_bind (wpAny_setField ho hd (by simp) _)
  refine stop_hot (x1 := x1) ⟨hh, o1, vs1, ?_, d1, c1⟩ fun h' a k ho' => ?_
  · rw [Heap.get?_update_other _ _ (Ne.symm hne)]
    exact h1
  · obtain ⟨o', e1, e2⟩ := ho'
    apply wpAny_bind
    refine wpAny_isInstance (T := "StopIteration") (b := true) ⟨o', e1, e2⟩ isSubtype_stop ?_
    refine wpAny_pure (hQ _ fun b ob hb e => k b ob ?_)
    rw [Heap.get?_update_other _ _ (Ne.symm hb)]
    exact e
/-- a, b, .. = a tuple -/
theorem assign_tup_hot {env : Env} {elts : List Expr} {k : Nat} {pos : Pos} {t x1 : Addr} {items : Array Value} {Q : Unit → Shared → Prop} (hot : HotAt A x1 s.heap) (ht : IsTup s.heap t items) (hn : (assignEach elts env).length = items.size) (hstar : (assignEach elts env).findIdx? (·.1) = none)
    (h : ∀ h', Heap.ExtBut s.heap.objs.size s.heap h' → wpAny (model prog w) A (assignInOrder ((assignEach elts env).map (·.2)) items.toList) Q E { s with heap := h' }) : wpAny (model prog w) A (assign (.Tuple elts k pos) env (.ref t)) Q E s := by
  rw [assign_Tuple]
  apply wpAny_bind
  apply wpAny_standAt
  unfold unpack
  rw [hn, hstar]
  apply wpAny_bind
  apply wpAny_holding
  obtain ⟨hh, o1, vs1, h1, d1, c1⟩ := hot
  have hlt : t ≠ s.heap.objs.size := by
    obtain ⟨o, ho, _⟩ := ht
    exact Nat.ne_of_lt (Heap.lt_size ho)
  have hx1 : x1 ≠ s.heap.objs.size := Nat.ne_of_lt (Heap.lt_size h1)
  unfold unpackItems
  apply wpAny_bind
  unfold notIterableAtAll
  apply wpAny_bind (wpAny_specialOf ht.typeIs slot_tuple_iter.lookup _)
  apply wpAny_pure
  simp only [Bool.false_eq_true, if_false]
  apply wpAny_bind
  refine wpAny_holding (iter_tuple ht ?_)
  apply wpAny_bind
  refine wpAny_holding (draw_tuple hlt items.size 0 _ _ ⟨_, Heap.get?_push_size _ rfl, rfl, rfl⟩ (ht.push _) (by omega) fun h₁ hit₁ hs₁ => ?_)
  have hall : List.take items.size (List.drop 0 items.toList) = items.toList := by
    rw [List.drop_zero]
    exact List.take_of_length_le (by simp)
  rw [hall, if_neg (by simp)]
  have ht₁ : IsTup h₁ t items := (ht.push _).extBut hs₁.extBut hlt
  have hx₁ : h₁.get? x1 = some o1 := hs₁.extBut x1 o1 hx1 (Heap.get?_push_of_some _ h1)
  apply wpAny_bind
  refine wpAny_holding (next_tuple_end_hot ⟨hh, o1, vs1, hx₁, d1, c1⟩ hx1 hit₁ ht₁ (by simp) fun h₂ he₂ => ?_)
  simp only [Option.isSome_none, Bool.false_eq_true, if_false]
  exact wpAny_pure (h h₂ fun b o hb e => he₂ b o hb (hs₁.extBut b o hb (Heap.get?_push_of_some _ e)))
end
end DLHotX

namespace DL
open PySem PySem.Spec PyProof.Rows L2 HotX L2H
/-! ### targets -/
structure PGH (X : Cx) (target : Expr) (t : TG) : Prop where
  run : ∀ (pins : List (Addr × Obj)) (s : Shared) (σ : L2.St) (H : Hp) (v : V) (u : Value) (Q : L2.St → Hp → Prop) (x1 : Addr), Inv X pins σ H s → HotAt X.A x1 s.heap → RelV v u → t v σ H Q →
    wpAny (model X.prog X.w) X.A (assign target X.env u) (fun _ s' => ∃ σ' H', Inv X pins σ' H' s' ∧ Q σ' H') X.xe s
section
variable {X : Cx} {pos : Pos}
theorem pgh_tup {es : List Expr} {k : Nat} {t : TGs} {n : Nat} (h : PGs X es t) (hn : (assignEach es X.env).length = n) (hst : (assignEach es X.env).findIdx? (·.1) = none) : PGH X (.Tuple es k pos) (gTup X.K n t) := by
  constructor
  rintro pins s σ H v u Q x1 I hot r ⟨a, xs, rfl, hq, hl, hw⟩
  cases r
  obtain ⟨its, rv, ht, hz⟩ := I.tuple hq
  refine DLHotX.assign_tup_hot hot ht (by simp [hn, ← hl, rv.length]) hst fun h' hx => ?_
  exact h.run pins _ σ H xs _ Q (I.kept (t' := s.toks) fun b o e => hx b o (Nat.ne_of_lt (Heap.lt_size e)) e) (by simpa using rv) hw

/-! ### a list comprehension over a list -/
theorem lcH_core {pins : List (Addr × Obj)} {s : Shared} {σ : L2.St} {H : Hp} {Q : VK} {elt tg iter : Expr} {ifs : List Expr} {scope : Scope} {own : List (Str × Nat)} {pos pos' : Pos} {ti : TE} {g : TG} {tt : TT} {te : TE} {use : Option (Value → Sem Unit)} {Qf : Value → Shared → Prop}
    (hc : HotC X) (hN : X.N.Nodup) (I : Inv X pins σ H s) (hi : PE X iter ti) (ok : BlkOk X.N X.env.scope scope own)
    (hg : ∀ (s : Shared) (H : Hp) (C : Addr) (cl : List (Str × Addr)) (fp : List Addr), PGH (X.blk s H scope (compEnvC scope cl C X.env) fp) tg g)
    (ht : ∀ (s : Shared) (H : Hp) (C : Addr) (cl : List (Str × Addr)) (fp : List Addr), PTs (X.blk s H scope (compEnvC scope cl C X.env) fp) ifs tt)
    (he : ∀ (s : Shared) (H : Hp) (C : Addr) (cl : List (Str × Addr)) (fp : List Addr), PE (X.blk s H scope (compEnvC scope cl C X.env) fp) elt te)
    (hs : ∀ x, foldedSetIterable iter X.env x = pure x) (h : tLc (iList X.K ti) g tt te (own.map (·.2)) σ H Q)
    (hRR : ∀ D C s' m H', Inv X pins σ H' s' → Q (.ref D) H' → s'.heap.Ns C m → FpOk X pins H' C → compPost (model X.prog X.w) X.A X.xe use Qf (.ref D) C (.ok .next) s') :
    wpAny (model X.prog X.w) X.A (comprehension (.ListComp elt [⟨tg, iter, ifs, 0⟩] scope pos) scope X.env pos' (newList []) false (eval iter X.env) use) Qf X.xe s := by
  have hfree : ∀ y ∈ scope.names, y.2 = .free → ∃ c, X.env.cells.lookup y.1 = some c := by
    intro y hy e
    exact (ok.free y hy e).elim (fun k => I.ok.has _ (.inl k)) (fun k => I.ok.has _ (.inr k))
  refine wpAny_comprehension_free (use := use) rfl hs (closure_ok hfree) ok.kind (fun y hy e => by rw [ok.uniq y hy, e]) ?_
  refine thn (hi.run pins s σ H _ I h) ?_
  rintro xv s1 ⟨x, H1, I1, rx, a, ea, ⟨xs0, hq0⟩, q⟩
  subst ea
  obtain rfl : xv = Value.ref a := rx
  obtain ⟨its0, rv0, pl0, hz0⟩ := I1.list hq0
  refine wpAny_pyIter_list pl0.isList ?_
  generalize hit : s1.heap.objs.size = it
  generalize hs2 : ({ s1 with heap := s1.heap.push { cls := .type "list_iterator", data := .fields #[.ref a, .int 0 0] } } : Shared) = s2
  have I2 : Inv X pins σ H1 s2 := by
    rw [← hs2]
    exact I1.kept (t' := s1.toks) fun b o e => Heap.get?_push_of_some _ e
  have st2 : s2.heap.IsListIter it a 0 := by
    rw [← hs2, ← hit]
    exact ⟨_, Heap.get?_push_size _ rfl, rfl, rfl⟩
  have f2 : FpOk X pins H1 it := by
    rw [← hit]
    exact I1.fpOk (Nat.le_refl _) (I1.hok.fresh (Nat.le_refl _))
  refine wpAny_newObj_type (newEnv_comp ?_) (by show 0 ≤ sizeLine; decide)
  generalize hD : s2.heap.objs.size = D
  have hDn : H1 D = none := I2.hok.fresh (Nat.le_of_eq hD)
  obtain ⟨W, ⟨m0, w0⟩, turn⟩ := q D hDn
  generalize hs3 : ({ s2 with heap := s2.heap.push { cls := .type "list", data := .seq ([] : List Value).toArray } } : Shared) = s3
  have h3 : s3.heap = s2.heap.push { cls := .type "list", data := .seq ([] : List Value).toArray } := by rw [← hs3]
  have I3 : Inv X pins σ (upd H1 D (.lst [])) s3 := by
    rw [← hs3]
    refine I2.laid (t' := s2.toks) (fun b o e => Heap.get?_push_of_some _ e) (Nat.le_of_eq hD) ⟨Nat.zero_le _, [], 0, .nil, ?_⟩
    rw [← hD]
    exact Heap.get?_push_size _ rfl
  have itlt : it < s2.heap.objs.size := by
    obtain ⟨o, e, _⟩ := st2
    exact Heap.lt_size e
  have f3 : ∀ b ∈ [it], FpOk X pins (upd H1 D (.lst [])) b ∧ b < s3.heap.objs.size := by
    intro b hb
    obtain rfl : b = it := by simpa using hb
    refine ⟨⟨?_, f2.2⟩, by rw [h3, Heap.size_push]; exact Nat.lt_succ_of_lt itlt⟩
    rw [upd_ne (by rw [← hD]; exact Nat.ne_of_lt itlt)]
    exact f2.1
  have st3 : s3.heap.IsListIter it a 0 := st2.at fun o e => by rw [h3]; exact Heap.get?_push_of_some _ e
  have I4 := block_start I3 ok hN f3
  generalize hcl : cellsFrom (s3.heap.objs.size + 1) scope.names (cloFrom X.env.cells scope.names []) = cl at I4
  have pg := hg s3 (upd H1 D (.lst [])) s3.heap.objs.size cl [it]
  have pt := ht s3 (upd H1 D (.lst [])) s3.heap.objs.size cl [it]
  have pe := he s3 (upd H1 D (.lst [])) s3.heap.objs.size cl [it]
  show codeAny _ _ (.compStart (.ListComp elt [⟨tg, iter, ifs, 0⟩] scope pos) 0 (.ref it) (.ref D) (compEnvC scope cl s3.heap.objs.size X.env)) (compPost (model X.prog X.w) X.A X.xe use Qf (.ref D) s3.heap.objs.size) { s3 with heap := pushCells (s3.heap.push { cls := .type "dict", data := .dict #[] }) scope.names }
  generalize hce : compEnvC scope cl s3.heap.objs.size X.env = ce at I4 pg pt pe ⊢
  have cL : ce.locals = s3.heap.objs.size := by subst hce; rfl
  generalize hH3 : upd H1 D (.lst []) = H3 at I3 I4 pg pt pe w0 f3
  have nIt : H3 it = none := (f3 it (by simp)).1.1
  generalize hs4 : ({ s3 with heap := pushCells (s3.heap.push { cls := .type "dict", data := .dict #[] }) scope.names } : Shared) = s4 at I4 ⊢
  have st4 : s4.heap.IsListIter it a 0 := st3.at fun o e => by rw [← hs4]; exact pushCells_keeps _ _ _ _ (Heap.get?_push_of_some _ e)
  -- the handled exception, in the block
  obtain ⟨p, ⟨ph, pv, pe1, pe2⟩, hp⟩ := hc
  obtain ⟨pk1, pk2, pk3, pk4, pk5⟩ := I3.pin p (List.mem_append_left _ hp)
  have pit : p.1 ≠ it := (f3 it (by simp)).1.2.2.2.2.2 p (List.mem_append_left _ hp)
  have hotB : ∀ {pins' : List (Addr × Obj)} {σ' : L2.St} {H' : Hp} {s' : Shared}, Inv (X.blk s3 H3 scope ce [it]) pins' σ' H' s' → HotAt X.A p.1 s'.heap := by
    intro pins' σ' H' s' J
    refine ⟨ph, p.2, pv, J.base.keep p.1 p.2 pk1 pk2 (fun z => ?_) (fun z => pit (by simpa using z)), pe1, pe2⟩
    exact (List.mem_cons.mp (I3.stkSub _ z)).elim pk3 pk4
  have stat : ∀ {σ' : L2.St} {H' : Hp} {s' : Shared}, Inv (X.blk s3 H3 scope ce [it]) [] σ' H' s' → H' it = none → ∀ b ∈ [it], FpOk (X.blk s3 H3 scope ce [it]) [] H' b := by
    intro σ' H' s' J hn b hb
    obtain rfl : b = it := by simpa using hb
    exact ⟨hn, (J.ok.exf b hb).1, J.ok.exfs b hb, .inl hb, fun x c e => (J.ok.exf b hb).2 x c e, fun q hq => absurd (show q ∈ ([] : List (Addr × Obj)) ++ [] from hq) (by simp)⟩
  have iobj : ∀ {i : Nat} {h : Heap}, h.IsListIter it a i → ∀ b ∈ [it], ∃ o, h.get? b = some o ∧ ∀ v, o.data ≠ .cell v := by
    rintro i h ⟨o, e, c, d⟩ b hb
    obtain rfl : b = it := by simpa using hb
    exact ⟨o, e, fun v z => by rw [d] at z; cases z⟩
  have loop : codeAny (model X.prog X.w) X.A (.compLoop (.ListComp elt [⟨tg, iter, ifs, 0⟩] scope pos) 0 (.ref it) (.ref D) ce) (compPost (model X.prog X.w) X.A X.xe use Qf (.ref D) s3.heap.objs.size) s4 := by
    refine compLoop_any (fun n s' => ∃ i H', Inv (X.blk s3 H3 scope ce [it]) [] (wipe σ (own.map (·.2))) H' s' ∧ s'.heap.IsListIter it a i ∧ H' it = none ∧ W i n H') ?_ m0 ⟨0, H3, I4, st4, nIt, w0⟩
    rintro n s5 ⟨i, H5, I5, st5, n5, w5⟩
    obtain ⟨f0, f1, f2', f3', f4, f5⟩ := stat I5 n5 it (by simp)
    rcases turn i n H5 w5 with ⟨⟨xs, hq, hx⟩, qq⟩ | ⟨⟨xs, x, hq, hx⟩, Nx, hNx, step⟩
    · -- the end
      obtain ⟨its, rv, pl, hz⟩ := I5.list hq
      have hl := rv.length
      refine thnF (Q := fun r s6 => r = none ∧ Inv (X.blk s3 H3 scope ce [it]) [] (wipe σ (own.map (·.2))) H5 s6) (DLHotX.next_list_end_hot (hotB I5) pit st5 pl.isList (by simp; omega) fun h' eb => ⟨rfl, I5.turned (t' := s5.toks) (fun b o hb e => eb b o hb e) f0 f1 f3' f4 f5⟩) ?_
      rintro r s6 ⟨rfl, I6⟩
      have I7 : Inv X pins σ H5 s6 := I3.call' (ch := [it]) I6.os I6.base I6.hok I6.bare fun b hb => ⟨(f3 b hb).1.2.2.2.1, (f3 b hb).1.2.1, (f3 b hb).1.2.2.2.2.1, (f3 b hb).1.2.2.2.2.2⟩
      have nC : H5 s3.heap.objs.size = none := by
        have z : H5 ce.locals = none := I6.free
        rwa [cL] at z
      obtain ⟨mm, hn, _⟩ := I6.loc
      have hn : s6.heap.Ns ce.locals mm := hn
      rw [cL] at hn
      exact hRR D s3.heap.objs.size s6 mm H5 I7 qq hn (I3.fpOk (Nat.le_refl _) nC)
    · -- a turn
      obtain ⟨its, rv, pl, hz⟩ := I5.list hq
      obtain ⟨u, hu, ru⟩ := rv.get hx
      refine thnF (Q := fun r s6 => r = some u ∧ Inv (X.blk s3 H3 scope ce [it]) [] (wipe σ (own.map (·.2))) H5 s6 ∧ s6.heap.IsListIter it a (i + 1)) (wpAny_pyNext_list_item st5 pl.isList (x := u) (by simpa using hu) fun h' st' sb => ⟨rfl, I5.turned (t' := s5.toks) (fun b o hb e => (sb.2 b hb).trans e) f0 f1 f3' f4 f5, st'⟩) ?_
      rintro r s7 ⟨rfl, I7, st7⟩
      have go : wpAny (model X.prog X.w) X.A (letOwnedTupleGo tg (.ref it) u) (fun _ s8 => s8 = s7) (fun _ _ => False) s7 := by
        obtain ⟨o, e, c, d⟩ := id st7
        exact go_of e c d (by decide) rfl
      refine thnF go ?_
      rintro _ s8 rfl
      have I7' := I7.pinned (stat I7 n5) (iobj st7)
      refine thnF (pg.run _ s8 _ H5 x u _ p.1 I7' (hotB I7) ru (step x H5 ⟨rfl, fun ys hy => by rw [I5.list_inj hy hq]; exact hx⟩)) ?_
      rintro _ s9 ⟨σ8, H8, I8, hw8, q8⟩
      refine thnF (pt.run _ s9 σ8 H8 _ I8 q8) ?_
      rintro b sA ⟨H9, I9, q9⟩
      have fin : ∀ {s' : Shared} {H' : Hp}, Inv (X.blk s3 H3 scope ce [it]) ([] ++ pinsAt [it] s8.heap) σ8 H' s' → Nx H' → ∃ mm, mm < n ∧ ∃ i H', Inv (X.blk s3 H3 scope ce [it]) [] (wipe σ (own.map (·.2))) H' s' ∧ s'.heap.IsListIter it a i ∧ H' it = none ∧ W i mm H' := by
        intro s' H' J nx
        obtain ⟨m', hm, w'⟩ := hNx H' nx
        obtain ⟨o, e, c, d⟩ := id st7
        have pp := J.pin (it, o) (List.mem_append_right _ (List.mem_append_right _ (mem_pinsAt (by simp) e)))
        refine ⟨m', hm, i + 1, H', (J.unpinned (pins := [])).weak (by rw [← hw8, wipe_length]) (fun j v e => ?_), st7.at fun o' e' => ?_, pp.2.1, w'⟩
        · rw [← hw8] at e
          exact (wipe_some e).1
        · rw [e] at e'
          cases e'
          exact pp.1
      cases b with
      | false =>
        simp only [Bool.false_eq_true, if_false] at q9 ⊢
        exact fin I9 q9
      | true =>
        simp only [if_true] at q9 ⊢
        refine thnF (pe.run _ sA σ8 H9 _ I9 q9) ?_
        rintro z sB ⟨yv, H10, I10, r10, acc, hD10, hz10, nx⟩
        exact app_ok (X := X.blk s3 H3 scope ce [it]) I10 hD10 hz10 r10 fun sC IC => fin IC nx
  exact codeAny_compStart_list loop (wpAny_pyIter_listiter st4 loop)
/-- as a value -/
theorem pe_lcH {elt tg iter : Expr} {ifs : List Expr} {scope : Scope} {own : List (Str × Nat)} {pos : Pos} {ti : TE} {g : TG} {tt : TT} {te : TE} (hc : HotC X) (hN : X.N.Nodup) (hi : PE X iter ti) (ok : BlkOk X.N X.env.scope scope own)
    (hg : ∀ (s : Shared) (H : Hp) (C : Addr) (cl : List (Str × Addr)) (fp : List Addr), PGH (X.blk s H scope (compEnvC scope cl C X.env) fp) tg g)
    (ht : ∀ (s : Shared) (H : Hp) (C : Addr) (cl : List (Str × Addr)) (fp : List Addr), PTs (X.blk s H scope (compEnvC scope cl C X.env) fp) ifs tt)
    (he : ∀ (s : Shared) (H : Hp) (C : Addr) (cl : List (Str × Addr)) (fp : List Addr), PE (X.blk s H scope (compEnvC scope cl C X.env) fp) elt te)
    (hs : ∀ x, foldedSetIterable iter X.env x = pure x) : PE X (.ListComp elt [⟨tg, iter, ifs, 0⟩] scope pos) (tLc (iList X.K ti) g tt te (own.map (·.2))) := by
  constructor
  intro pins s σ H Q I h
  rw [eval_ListComp]
  refine lcH_core hc hN I hi ok hg ht he hs h ?_
  rintro D C s' m H' I' q hn ⟨f0, f1, f2, f3, f4, f5⟩
  exact ⟨m, hn, fun h'' sb => ⟨.ref D, H', I'.turned (t' := s'.toks) (fun b o hb e => (sb.2 b hb).trans e) f0 f1 f3 f4 f5, rfl, q⟩⟩
theorem ps_setLcH {i : Nat} {y : Str} {py : Pos} {elt tg iter : Expr} {ifs : List Expr} {scope : Scope} {own : List (Str × Nat)} {pos spos : Pos} {ti : TE} {g : TG} {tt : TT} {te : TE} (hc : HotC X) (hN : X.N.Nodup) (hy : X.N[i]? = some y)
    (hyl : X.env.scope.names.lookup y = some .local) (hsw : swapsWith (.ListComp elt [⟨tg, iter, ifs, 0⟩] scope pos) (some (.Name y py)) spos.line X.env = pure true) (hi : PE X iter ti) (ok : BlkOk X.N X.env.scope scope own)
    (hg : ∀ (s : Shared) (H : Hp) (C : Addr) (cl : List (Str × Addr)) (fp : List Addr), PGH (X.blk s H scope (compEnvC scope cl C X.env) fp) tg g)
    (ht : ∀ (s : Shared) (H : Hp) (C : Addr) (cl : List (Str × Addr)) (fp : List Addr), PTs (X.blk s H scope (compEnvC scope cl C X.env) fp) ifs tt)
    (he : ∀ (s : Shared) (H : Hp) (C : Addr) (cl : List (Str × Addr)) (fp : List Addr), PE (X.blk s H scope (compEnvC scope cl C X.env) fp) elt te)
    (hs : ∀ x, foldedSetIterable iter X.env x = pure x) : PS X (.Assign [.Name y py] (.ListComp elt [⟨tg, iter, ifs, 0⟩] scope pos) spos) (tAsg (tLc (iList X.K ti) g tt te (own.map (·.2))) (gName i)) := by
  constructor
  intro pins s σ H D I h
  rw [exec_Assign_Name_used _ _ _ _ hsw]
  refine wpAny_bind (wpAny_standAt (wpAny_bind ?_))
  show wpAny _ X.A (do let _ ← comprehension (.ListComp elt [⟨tg, iter, ifs, 0⟩] scope pos) scope X.env (firstIterPos [⟨tg, iter, ifs, 0⟩] pos) (newList []) false (eval iter X.env) (some (assign (.Name y py) X.env))) _ _ s
  have h : tLc (iList X.K ti) g tt te (own.map (·.2)) σ H (fun x H1 => gName i x σ H1 D.nx) := h
  refine wpAny_bind (thn (lcH_core (Qf := fun _ s' => SP X pins D .next s') hc hN I hi ok hg ht he hs h ?_) fun _ s' hq => wpAny_pure (wpAny_pure hq))
  rintro L C s' m H' I' q hn ⟨f0, f1, f2, f3, f4, f5⟩
  show wpAny _ _ (assign (.Name y py) X.env (.ref L)) _ _ _
  refine wpAny_assign_Name (store_ok2 (v := V.ref L) I' hN hy (.inl hyl) rfl (fun s2 I2 hh => ?_) (.inr hyl))
  obtain ⟨a, sb, ha⟩ := hh
  have haC : C ≠ a := ha.elim (fun z => by rw [z]; exact f1) (fun z e => f4 y a z e.symm)
  exact ⟨m, hn.sameBut sb haC, fun h3 sb3 => ⟨_, H', I2.turned (t' := s2.toks) (fun b o hb e => (sb3.2 b hb).trans e) f0 f1 f3 f4 f5, q⟩⟩
end
/-! ### the rules -/
structure RGH (c : Cf) (X : Cx) (e : Expr) (slots : List Nat) (f : D → Envi → Option Envi) : Prop where
  ex : Amb c X → PGH X e (gOf c.g slots f)
section
variable {c : Cf} {X : Cx} {Wx : WX} {elt tg iter : Expr} {pos : Pos}
theorem rgh_tup {slots : List Nat} {es : List Expr} {k n : Nat} {r : List D → Envi → Option Envi} (h : RGs c X es slots r) (hn : (assignEach es X.env).length = n := by rfl) (hst : (assignEach es X.env).findIdx? (·.1) = none := by rfl) : RGH c X (.Tuple es k pos) slots (tT n r) := ⟨fun am => by
  have p := pgh_tup (pos := pos) (k := k) (h.ex am) hn hst
  constructor
  rintro pins s σ H v u Q x1 I hot r ⟨d, env, env', m, st, E, r1, e, q⟩
  cases d with
  | tup l =>
    obtain ⟨a, xs, rfl, h1, h2⟩ := r1.tup_inv
    simp only [tT] at e
    split at e
    · rename_i hl
      exact p.run pins s σ H _ u Q x1 I hot r ⟨a, xs, rfl, am.K ▸ h1.sq, by rw [h2.length]; exact hl, l, env, env', m, st, E, h2, e, q⟩
    · cases e
  | _ => cases e⟩
/-- the items of a list -/
@[simp] def iSl (f : Den) : DenL := fun env st => (f env st).bind fun w st => .ofO w.lsD st
theorem lsD_rel {g : G} {m st H0 H v} {w : W} {l : List D} (r : RelW g m st H0 H v w) (e : w.lsD = some l) : ∃ a xs, v = .ref a ∧ LsR m st H a xs ∧ RelL g m st H xs l := by
  unfold W.lsD at e
  cases z : w.toD with
  | none => rw [z] at e; cases e
  | some d =>
    rw [z] at e
    have rd := r.toD z
    cases d with
    | lst l' =>
      cases e
      cases rd with
      | lst h1 h2 => exact ⟨_, _, rfl, h1, h2⟩
    | _ => cases e
theorem val_iSl {g : G} {K : PySem.W.Frag} {t : TE} {fa : Den} (va : Val g Wx t fa) : ∀ σ H env m st R, EnvR g m st H σ env → Wd g m st H → Post g m σ Wx st H (RI_ g m) (iSl fa env st) R → iList K t σ H R := by
  intro σ H env m st R E w h
  refine va σ H env m st _ E w (Post.bind (RA := RW_ g m) back_i h fun w1 st1 _ v H1 s1 r1 h => ?_)
  obtain ⟨l, e, h⟩ := h.ofO
  obtain ⟨q, xs, rfl, h1, h2⟩ := lsD_rel r1 e
  exact ⟨q, rfl, ⟨xs, h1.sq⟩, h.ok s1.wd (itok_list h1 h2)⟩
section
variable {ifs : List Expr} {scope : Scope} {own : List (Str × Nat)} {slots : List Nat} {fa : Den} {ftg : D → Envi → Option Envi} {ft : DenB} {fe : Den}
theorem re_lcH (hi : RE c X Wx iter fa) (ok : BlkOk X.N X.env.scope scope own) (hsl : ∀ j, j ∈ slots ↔ j ∈ own.map (·.2))
    (hg : ∀ (s : Shared) (H : Hp) (C : Addr) (cl : List (Str × Addr)) (fp : List Addr), RGH c (X.blk s H scope (compEnvC scope cl C X.env) fp) tg slots ftg)
    (ht : ∀ (s : Shared) (H : Hp) (C : Addr) (cl : List (Str × Addr)) (fp : List Addr), RTs c (X.blk s H scope (compEnvC scope cl C X.env) fp) WxF ifs ft)
    (he : ∀ (s : Shared) (H : Hp) (C : Addr) (cl : List (Str × Addr)) (fp : List Addr), RE c (X.blk s H scope (compEnvC scope cl C X.env) fp) WxF elt fe)
    (hs : ∀ x, foldedSetIterable iter X.env x = pure x := by intro _; rfl) (hc : X.calm = false := by rfl) (hp : X.pn ≠ [] := by exact List.cons_ne_nil _ _) : RE c X Wx (.ListComp elt [⟨tg, iter, ifs, 0⟩] scope pos) (eLc (iSl fa) ftg ft fe) := ⟨fun am tk => by
  obtain ⟨ti, pi, vi⟩ := hi.ex am tk
  exact ⟨_, pe_lcH (am.hot hc hp) am.nd pi ok (fun s H C cl fp => (hg s H C cl fp).ex (am.blk ..)) (fun s H C cl fp => (ht s H C cl fp).ex (am.blk ..) takesN0) (fun s H C cl fp => (he s H C cl fp).pe (am.blk ..) takesN0) hs, val_lc hsl (val_iSl vi)⟩⟩
theorem rs_setLcH {i : Nat} {y : Str} {py spos : Pos} (hi : RE c X Wx iter fa) (ok : BlkOk X.N X.env.scope scope own) (hsl : ∀ j, j ∈ slots ↔ j ∈ own.map (·.2))
    (hg : ∀ (s : Shared) (H : Hp) (C : Addr) (cl : List (Str × Addr)) (fp : List Addr), RGH c (X.blk s H scope (compEnvC scope cl C X.env) fp) tg slots ftg)
    (ht : ∀ (s : Shared) (H : Hp) (C : Addr) (cl : List (Str × Addr)) (fp : List Addr), RTs c (X.blk s H scope (compEnvC scope cl C X.env) fp) WxF ifs ft)
    (he : ∀ (s : Shared) (H : Hp) (C : Addr) (cl : List (Str × Addr)) (fp : List Addr), RE c (X.blk s H scope (compEnvC scope cl C X.env) fp) WxF elt fe)
    (hy : X.N[i]? = some y := by rfl) (hyl : X.env.scope.names.lookup y = some .local := by rfl) (hsw : swapsWith (.ListComp elt [⟨tg, iter, ifs, 0⟩] scope pos) (some (.Name y py)) spos.line X.env = pure true := by exact sw_true rfl rfl rfl (by decide +kernel))
    (hs : ∀ x, foldedSetIterable iter X.env x = pure x := by intro _; rfl) (hc : X.calm = false := by rfl) (hp : X.pn ≠ [] := by exact List.cons_ne_nil _ _) : RS c X Wx (.Assign [.Name y py] (.ListComp elt [⟨tg, iter, ifs, 0⟩] scope pos) spos) (sSet i (eLc (iSl fa) ftg ft fe)) := ⟨fun am => by
  obtain ⟨ti, pi, vi⟩ := hi.ex am.am am.tk
  have p := ps_setLcH (am.am.hot hc hp) am.am.nd hy hyl hsw pi ok (fun s H C cl fp => (hg s H C cl fp).ex (am.am.blk ..)) (fun s H C cl fp => (ht s H C cl fp).ex (am.am.blk ..) takesN0) (fun s H C cl fp => (he s H C cl fp).pe (am.am.blk ..) takesN0) hs
  exact ⟨_, p, vals_set (val_lc hsl (val_iSl vi))⟩⟩
end
/-- isinstance(e, x), e the error that is told -/
@[simp] def eIsE (cl : List Str) (sub : Nat → Nat → Bool) (i j : Nat) : Den := fun env st => match env[i]? with
  | some (some (.x x)) => if (cl[x.c]?).isSome && x.at'.isNone then .ok (.d (.bl (sub x.c j))) st else .no
  | _ => .no
theorem re_isE {Y : Cx} {a : Addr} {oe : Obj} {cls : Value} {d : Option Addr} {pn : List (Addr × Obj)} {i j : Nat} {n xc : Str} {p p1 p2 : Pos} (hx : c.g.ex = some (a, cls, d)) (hz : L2N.Zn cls d oe) (hf : ∃ vs, oe.data = .fields vs) (hxc : c.P.acl[j]? = some xc := by rfl)
    (hN : Y.N[i]? = some n := by rfl) (hv : Vis Y.env.scope n := by first | exact Or.inl rfl | exact Or.inr (Or.inl rfl) | exact Or.inr (Or.inr rfl)) (hd : (n == ("__debug__" : Str)) = false := by decide) (hcd : (n == ("__classdict__" : Str)) = false := by decide) (hgx : Gl Y xc := by rfl) (hi : Gl Y "isinstance" := by rfl)
    (hdx : (xc == ("__debug__" : Str)) = false := by decide) (he : starEach [.Name n p1, .Name xc p2] Y.env = (false, eval (.Name n p1) Y.env) :: starEach [.Name xc p2] Y.env := by rfl) (he2 : starEach [.Name xc p2] Y.env = (false, eval (.Name xc p2) Y.env) :: starEach [] Y.env := by rfl)
    (hpl : (backTo pos (starEach [.Name xc p2] Y.env)).any (·.1) = false := by rfl) : RE c (Y.suite a ((a, oe) :: pn)) Wx (.Call (.Name "isinstance" p) [.Name n p1, .Name xc p2] [] pos) (eIsE c.P.cl c.P.sub i j) := ⟨fun am tk => by
  by_cases hD : ∃ q, cls = .ref (c.g.ca q) ∧ d = none ∧ (c.P.cl[q]?).isSome = true
  case neg =>
    refine ⟨fun _ _ _ => False, ⟨fun _ _ _ _ _ _ h => h.elim⟩, fun σ H env m st Q E w h => ?_⟩
    unfold eIsE at h
    split at h
    · rename_i x hx2
      split at h
      · rename_i hk
        rw [Bool.and_eq_true] at hk
        obtain ⟨v, e1, a2, cls2, d2, q1, q2, q3, q4⟩ := E.at_ i _ hx2
        rw [hx] at q1
        cases q1
        cases q : x.at' with
        | none => rw [q] at q4; exact hD ⟨x.c, q3, q4, hk.1⟩
        | some fy => rw [q] at hk; exact absurd (show false = true from hk.2) Bool.false_ne_true
      · exact h.elim
    · exact h.elim
  obtain ⟨q, rfl, rfl, hq⟩ := hD
  obtain ⟨y, hy⟩ := Option.isSome_iff_exists.mp hq
  have cok := am.clok q y hy
  have hm := am.cls j xc hxc
  refine ⟨_, pe_callB (X := Y.suite a ((a, oe) :: pn)) (call_isE cok.is hz.zc hf) hi (am.blt "isinstance" (by decide)) (by decide +kernel) (pa_cons (pe_var (i := i) hN hv hd hcd) (pa_cons (pe_glob (v := .ref (c.g.ca j)) hgx hm rfl hdx) pa_nil he2) he) (by decide) (by decide) he hpl, fun σ H env m st Q E w h => ?_⟩
  unfold eIsE at h
  split at h
  · rename_i x hx2
    split at h
    · rename_i hk
      rw [Bool.and_eq_true] at hk
      obtain ⟨v, e1, a2, cls2, d2, q1, q2, q3, q4⟩ := E.at_ i _ hx2
      rw [hx] at q1
      cases q1
      subst q2
      obtain ⟨y2, hy2⟩ := Option.isSome_iff_exists.mp hk.1
      have hs := (am.sub x.c j y2 xc hy2 hxc).2
      rw [← q3] at hs
      exact ⟨_, e1, .ref (c.g.ca j), .ref (c.g.ca j), c.P.sub x.c j, rfl, fun u r => r, hs, h.ok w (show Rel _ _ _ _ _ _ from .bl _)⟩
    · exact h.elim
  · exact h.elim⟩
/-- a.join(b) -/
def strsD : List D → Option (List Str)
  | [] => some []
  | .str s :: r => (strsD r).map (s :: ·)
  | _ :: _ => none
theorem strsD_rel {g : G} {m st H} : ∀ {l : List D} {ys : List Str} {xs : List V}, strsD l = some ys → RelL g m st H xs l → xs = ys.map V.str
  | [], _, _, e, r => by cases e; cases r; rfl
  | d :: l, ys, _, e, .cons r1 r2 => by
    cases r1 with
    | str x =>
      have e : (strsD l).map (x :: ·) = some ys := e
      cases z : strsD l with
      | none => rw [z] at e; cases e
      | some zs =>
        rw [z] at e
        cases e
        rw [strsD_rel z r2]
        rfl
    | _ => cases e
def dJoin (a : Str) (w2 : W) : Option W := match w2.seqD.bind strsD with
  | some ys => if decide ((ys.map (·.length)).sum + ys.length * a.length ≤ 16777216) then some (.d (.str (Txt.join a ys))) else none
  | _ => none
@[simp] def eJoin (f1 f2 : Den) : Den := fun env st => (f1 env st).bind fun w1 st => match w1 with
  | .d (.str a) => (f2 env st).bind fun w2 st => .ofO (dJoin a w2) st
  | _ => .no
theorem re_join {o e : Expr} {f1 f2 : Den} {apos : Pos} (ho : RE c X Wx o f1) (he : RE c X Wx e f2) (hs : starEach [e] X.env = [(false, eval e X.env)] := by rfl) (hbase : attributeBase o "join" X.env (eval o X.env) = eval o X.env := by rfl)
    (hline : (apos.endLine == pos.line) = true := by rfl) : RE c X Wx (.Call (.Attribute o "join" apos) [e] [] pos) (eJoin f1 f2) := ⟨fun am tk => by
  obtain ⟨t1, p1, v1⟩ := ho.ex am tk
  obtain ⟨t2, p2, v2⟩ := he.ex am tk
  refine ⟨_, pe_join p1 p2 hs hbase hline, fun σ H env m st Q E w h => v1 σ H env m st _ E w (Post.bind (RA := RW_ c.g m) back_w h fun w1 st1 _ x H1 s1 r1 h => ?_)⟩
  split at h
  · rename_i b _
    cases r1
    refine ⟨⟨b, rfl⟩, v2 σ H1 env m st1 _ (E.ext s1.ext s1.pre) s1.wd (Post.bind (RA := RW_ c.g m) back_w h fun w2 st2 _ y H2 s2 r2 h => ?_)⟩
    obtain ⟨w3, e3, h⟩ := h.ofO
    unfold dJoin at e3
    split at e3
    · rename_i ys hys
      split at e3
      · rename_i hz
        cases e3
        rw [Option.bind_eq_some_iff] at hys
        obtain ⟨l, hl, hl2⟩ := hys
        obtain ⟨q, xs, rfl, h1, h2⟩ := seqD_rel r2 hl
        have exs := strsD_rel hl2 h2
        subst exs
        exact ⟨b, q, ys, rfl, rfl, h1.elim (fun z => .inl z.sq) (fun z => .inr (am.K ▸ z.sq)), of_decide_eq_true hz, h.ok s2.wd (show Rel _ _ _ _ _ _ from .str _)⟩
      · cases e3
    · cases e3
  · exact h.elim⟩
/-- an expression that is not looked at -/
@[simp] def eNo : Den := fun _ _ => .no
theorem re_no {e : Expr} : RE c X Wx e eNo := ⟨fun _ _ => ⟨fun _ _ _ => False, ⟨fun _ _ _ _ _ _ h => h.elim⟩, fun _ _ _ _ _ _ _ _ h => h⟩⟩
/-- a statement of which nothing is told -/
theorem rss_no {ss : List Stmt} : RSs c X Wx ss (fun _ _ => .no) := ⟨fun _ => ⟨fun _ _ _ => False, ⟨fun _ _ _ _ _ _ h => h.elim⟩, fun _ _ _ _ _ _ _ _ h => h⟩⟩
end
end DL

/-! DL: the end: what the written heap must say, asked by one check; the law's promise. -/
namespace DL
open PySem PySem.Spec PyProof.Rows L2 LamX
section
variable (K : PySem.W.Frag)
def faOf (x : Str) : Addr := match PySem.W.nsIn K mainGlobals x with
  | some (some (.ref f)) => f
  | _ => 0
def isRef : Option (Option Value) → Bool
  | some (some (.ref _)) => true
  | _ => false
def isFree : Option (Option Value) → Bool
  | some none => true
  | _ => false
def fdOf (f : Addr) : Option FuncData := match K.lookup f with
  | some ⟨_, _, .func fd, _⟩ => some fd
  | _ => none
abbrev FKey := Str × Str × Arguments × FuncBody × Scope × Addr × List (Str × Addr) × Value × Addr
def fKey (fd : FuncData) : FKey := (fd.name, fd.qualname, fd.params, fd.body, fd.scope, fd.globals, fd.closure, fd.defaults, fd.builtins)
def dKey (d : DefI) : FKey := (d.x, d.x, defArgs d.st, .stmts (defBody d.st), defScope d.st, mainGlobals, [], .none, builtinsNs)
def chkD (d : DefI) : Bool := isRef (PySem.W.nsIn K mainGlobals d.x) && PySem.W.keepIn K (.ref (faOf K d.x)) && ((fdOf K (faOf K d.x)).any fun fd => PySem.W.codeIn K fd.code d.x)
def chkC (x : Str) : Bool := isRef (PySem.W.nsIn K mainGlobals x) && (PySem.W.excIn K (faOf K x) [.type "ValueError", .type "Exception", .type "BaseException", .type "object"] "ValueError.__new__" && (PySem.W.keepIn K (.ref (faOf K x)) &&
  (decide (PySem.W.subIn K (.ref (faOf K x)) (.type "BaseException") = some true) && (decide (PySem.W.typeIn K (.ref (faOf K x)) = some (.type "type")) && (decide (PySem.W.findIn K (.ref (faOf K x)) "__getattribute__" = some (some (.builtin "BaseException.__getattribute__"))) &&
  (decide (PySem.W.findIn K (.ref (faOf K x)) "__getattr__" = some none) && (PySem.W.hasDictIn K (faOf K x) && (decide (PySem.W.findIn K (.ref (faOf K x)) "__class__" = some (some (.builtin "object.__class__"))) &&
  (decide (PySem.W.specialIn K (.builtin "object.__class__") "__get__" = some (some (.builtin "getset_descriptor.__get__"))) && (decide (PySem.W.takesIn K (.builtin "object.__class__") = some true) && decide (PySem.W.mroIn K (faOf K x) (.type "object") = some true)))))))))))
def chkS (P : Prg) : Bool := (List.range P.cl.length).all fun i => (List.range P.acl.length).all fun j =>
  decide (PySem.W.exmOne K (.ref (faOf K (P.cl.getD i ""))) (.ref (faOf K (P.acl.getD j ""))) = some (P.sub i j)) && decide (PySem.W.kitOne K (.ref (faOf K (P.cl.getD i ""))) (.ref (faOf K (P.acl.getD j ""))) = some (P.sub i j))
def conT (f : Value → D → Bool) (v : Value) (d : D) : Bool := match v, d with
  | .none, .non => true
  | .bool b, .bl c => b == c
  | .int i _, .int j => decide (i = j)
  | .str s _, .str t => decide (s = t)
  | .ref a, .tup l => match K.lookup a with
    | some ⟨.type "tuple", _, .seq its _, _⟩ => (decide (its.size ≤ 16777216) && l.any fun d => !isI d) && (its.toList.length == l.length && (its.toList.zip l).all fun p => f p.1 p.2)
    | _ => false
  | _, _ => false
def conB : Value → D → Bool := conT K (conT K (conT K fun _ _ => false))
def chkK (c : Str × D) : Bool := match PySem.W.nsIn K mainGlobals c.1 with
  | some (some v) => conB K v c.2
  | _ => false
/-- the tables of the defs that make lambdas -/
def tabsOf (defs : List DefI) : List (DefI × Addr × Addr) := (defs.filter (·.lm)).filterMap fun d => (PySem.W.tabIn K d.x).map fun p => (d, p)
def lamQ (x : Str) : Str := x ++ ".<locals>." ++ "<lambda>"
def chkT (defs : List DefI) (ts : List Addr) : Bool := (defs.filter (·.lm)).all (fun d => (PySem.W.tabIn K d.x).isSome) && (tabsOf K defs).all (fun p => PySem.W.codeHdIn K p.2.1 p.2.2 && ((K.lookup p.2.2).isNone && ts.contains p.2.2)) && decide (((tabsOf K defs).map fun p => p.2.2).Nodup)
def gOf_ (P : Prg) (defs : List DefI) : G := { K := K, fa := fun i => faOf K (P.fn.getD i ""), ca := fun i => faOf K (P.acl.getD i ""), T := (tabsOf K defs).map fun p => (p.2.2, lamQ p.1.x) }
structure Chk (P : Prg) (defs : List DefI) (ts : List Addr) : Prop where
  ds : defs.all (chkD K) = true
  keys : defs.map (fun d => (fdOf K (faOf K d.x)).map fKey) = defs.map fun d => some (dKey d)
  cs : P.cl.all (chkC K) = true
  ss : (chkS K P && P.xcl.all fun x => isRef (PySem.W.nsIn K mainGlobals x)) = true
  ks : P.cons.all (chkK K) = true
  bs : bltNames.all (fun x => isFree (PySem.W.nsIn K mainGlobals x)) = true
  tt : chkT K defs ts = true
end
section
variable {K : PySem.W.Frag} {P : Prg} {defs : List DefI} {ts : List Addr} {h : Heap} {mg : Str → Option Value}
theorem isRef_fa {x : Str} (e : isRef (PySem.W.nsIn K mainGlobals x) = true) : PySem.W.nsIn K mainGlobals x = some (some (.ref (faOf K x))) := by
  unfold faOf
  unfold isRef at e
  split at e
  · rename_i f hf
    rw [hf]
  · cases e
theorem isFree_none {x : Str} (e : isFree (PySem.W.nsIn K mainGlobals x) = true) : PySem.W.nsIn K mainGlobals x = some none := by
  unfold isFree at e
  split at e
  · assumption
  · cases e
theorem fKey_eq {fd : FuncData} {d : DefI} (e : fKey fd = dKey d) : ∃ (kV doc pm : Value) (an : Option Addr) (cdv ct : Value), fd = PySem.W.fnOf d.x d.x (defArgs d.st) (defBody d.st) (defScope d.st) .none kV doc pm an cdv ct ∧ fd.code = cdv := by
  obtain ⟨n, q, ps, b, sc, gl, cl, dv, kv, doc, pm, an, cd, ct, bl⟩ := fd
  simp only [fKey, dKey, Prod.mk.injEq] at e
  obtain ⟨rfl, rfl, rfl, rfl, rfl, rfl, rfl, rfl, rfl⟩ := e
  exact ⟨kv, doc, pm, an, cd, ct, rfl, rfl⟩
theorem chk_fun (C : Chk K P defs ts) {d : DefI} (hd : d ∈ defs) : PySem.W.nsIn K mainGlobals d.x = some (some (.ref (faOf K d.x))) ∧ ∃ fd, Fun K d.x d.x d.st (faOf K d.x) fd := by
  have h1 := List.all_eq_true.mp C.ds d hd
  unfold chkD at h1
  rw [Bool.and_eq_true, Bool.and_eq_true] at h1
  obtain ⟨⟨h1, h2⟩, h3⟩ := h1
  refine ⟨isRef_fa h1, ?_⟩
  have h4 : (fdOf K (faOf K d.x)).map fKey = some (dKey d) := by
    obtain ⟨i, hi⟩ := List.mem_iff_getElem?.mp hd
    have := congrArg (fun l => l[i]?) C.keys
    simp only [List.getElem?_map, hi, Option.map_some] at this
    exact Option.some.inj this
  cases q : fdOf K (faOf K d.x) with
  | none => rw [q] at h4; cases h4
  | some fd =>
    rw [q] at h4 h3
    obtain ⟨kV, doc, pm, an, cdv, ct, rfl, _⟩ := fKey_eq (Option.some.inj h4)
    unfold fdOf at q
    split at q
    · rename_i oc od fd' osl lk
      cases q
      exact ⟨_, ⟨oc, od, kV, doc, pm, an, cdv, ct, osl, rfl, lk, h3⟩, h2⟩
    · cases q
def Good (K : PySem.W.Frag) (v : Value) (d : D) : Prop := ∃ u, RelV u v ∧ ∀ (g : G), g.K = K → ∀ m st H, Rel g m st H u d
theorem good_list : ∀ {vs : List Value} {ds : List D}, vs.length = ds.length → (∀ p ∈ vs.zip ds, Good K p.1 p.2) → ∃ us, Vals us vs ∧ ∀ (g : G), g.K = K → ∀ m st H, RelL g m st H us ds
  | [], [], _, _ => ⟨[], .nil, fun _ _ _ _ _ => .nil⟩
  | v :: vs, d :: ds, hl, h => by
    obtain ⟨u, r, k⟩ := h (v, d) List.mem_cons_self
    obtain ⟨us, rs, ks⟩ := good_list (vs := vs) (ds := ds) (by simpa using hl) (fun p hp => h p (List.mem_cons_of_mem _ hp))
    exact ⟨u :: us, .cons r rs, fun g hg m st H => .cons (k g hg m st H) (ks g hg m st H)⟩
theorem relL_nonI {g : G} {m : Mm} {st : Stor} {H : Hp} : ∀ {us : List V} {ds : List D}, RelL g m st H us ds → (ds.any fun d => !isI d) = true → ∃ x ∈ us, ∀ n : Int, x ≠ .int n
  | [], _, .nil, h => by simp at h
  | u :: us, d :: ds, .cons r t, h => by
    rw [List.any_cons, Bool.or_eq_true] at h
    rcases h with h | h
    · refine ⟨u, by simp, fun n e => ?_⟩
      subst e
      cases r
      simp [isI] at h
    · obtain ⟨x, hx, hn⟩ := relL_nonI t h
      exact ⟨x, by simp [hx], hn⟩
theorem conT_ok {f : Value → D → Bool} (hf : ∀ v d, f v d = true → Good K v d) {v : Value} {d : D} (e : conT K f v d = true) : Good K v d := by
  unfold conT at e
  split at e
  · exact ⟨.non, rfl, fun _ _ _ _ _ => .non⟩
  · rename_i b c
    obtain rfl := eq_of_beq e
    exact ⟨.bl b, rfl, fun _ _ _ _ _ => .bl b⟩
  · rename_i i t j
    obtain rfl := of_decide_eq_true e
    exact ⟨.int i, ⟨t, rfl⟩, fun _ _ _ _ _ => .int i⟩
  · rename_i s t u
    obtain rfl := of_decide_eq_true e
    exact ⟨.str s, ⟨t, rfl⟩, fun _ _ _ _ _ => .str s⟩
  · rename_i a l
    split at e
    · rename_i od its n sl lk
      rw [Bool.and_eq_true, Bool.and_eq_true, Bool.and_eq_true, List.all_eq_true] at e
      obtain ⟨us, r, k⟩ := good_list (K := K) (eq_of_beq e.2.1) (fun p hp => hf _ _ (e.2.2 p hp))
      exact ⟨.ref a, rfl, fun g hg m st H => .tup (.inr ⟨⟨_, its, n, by rw [hg]; exact lk, rfl, rfl, by rw [sizeLine_eq]; exact of_decide_eq_true e.1.1, r⟩, relL_nonI (k g hg m st H) e.1.2⟩) (k g hg m st H)⟩
    · cases e
  · cases e
theorem conB_ok {v : Value} {d : D} (e : conB K v d = true) : Good K v d := conT_ok (f := conT K (conT K fun _ _ => false)) (fun _ _ e => conT_ok (f := conT K fun _ _ => false) (fun _ _ e => conT_ok (f := fun _ _ => false) (fun _ _ e => absurd e Bool.false_ne_true) e) e) e
theorem chkC_ok {x : Str} (e : chkC K x = true) : PySem.W.nsIn K mainGlobals x = some (some (.ref (faOf K x))) ∧ ClsOk K (faOf K x) := by
  unfold chkC at e
  simp only [Bool.and_eq_true, decide_eq_true_eq] at e
  obtain ⟨h0, h1, h2, h3, h4, h5, h6, h7, h8, h9, h10, h11⟩ := e
  exact ⟨isRef_fa h0, ⟨h1, h2, h3, h4, ⟨h5, h6, h3, h7, h8, h9, h10, h11⟩⟩⟩
theorem tabs_mem {d : DefI} (hd : d ∈ defs) (hl : d.lm = true) {p : Addr × Addr} (e : PySem.W.tabIn K d.x = some p) : (d, p) ∈ tabsOf K defs :=
  List.mem_filterMap.mpr ⟨d, List.mem_filter.mpr ⟨hd, hl⟩, by rw [e]; rfl⟩
theorem tab_code {x : Str} {c Pt f : Addr} {oc : Value} {od : Option Addr} {fd : FuncData} {osl : Array (Option Value)} (e : PySem.W.tabIn K x = some (c, Pt)) (hn : PySem.W.nsIn K mainGlobals x = some (some (.ref f))) (lk : K.lookup f = some ⟨oc, od, .func fd, osl⟩) : fd.code = .ref c := by
  unfold PySem.W.tabIn at e
  rw [hn] at e
  dsimp only at e
  rw [lk] at e
  dsimp only at e
  split at e
  · rename_i c2 hc
    split at e
    · split at e
      · cases e
        exact hc
      · cases e
    · cases e
  · cases e
theorem nodup_map_inj {α β : Type} {f : α → β} : ∀ {l : List α}, (l.map f).Nodup → ∀ a ∈ l, ∀ b ∈ l, f a = f b → a = b
  | [], _, a, ha, _, _, _ => nomatch ha
  | x :: l, h, a, ha, b, hb, e => by
    rw [List.map_cons, List.nodup_cons] at h
    rcases List.mem_cons.mp ha with ea | ha'
    · rcases List.mem_cons.mp hb with eb | hb'
      · rw [ea, eb]
      · exact absurd (show f x ∈ l.map f from List.mem_map.mpr ⟨b, hb', by rw [← e, ea]⟩) h.1
    · rcases List.mem_cons.mp hb with eb | hb'
      · exact absurd (show f x ∈ l.map f from List.mem_map.mpr ⟨a, ha', by rw [e, eb]⟩) h.1
      · exact nodup_map_inj h.2 a ha' b hb' e
theorem getD_some {l : List Str} {i : Nat} {x : Str} (e : l[i]? = some x) : l.getD i "" = x := by
  rw [List.getD_eq_getElem?_getD, e]
  rfl
theorem grd {Pg : Program} {w : World} {base : Heap} (C : Chk K P defs ts) (X : K.In base) (G : base.Ns mainGlobals mg) (hfn : P.fn = defs.map (·.x)) (her : ∀ e, P.er = some e → ∃ d, defs[e.i]? = some d ∧ d.x = e.x ∧ d.st = e.st)
    (TB : ∀ p ∈ (tabsOf K defs).map (·.2), TabB base mg p.1 p.2) : Grd P defs (gOf_ K P defs) Pg w mg base := by
  have fnx : ∀ {i : Nat} {d : DefI}, defs[i]? = some d → P.fn[i]? = some d.x := fun {i d} hd => by rw [hfn, List.getElem?_map, hd]; rfl
  have fa : ∀ {i : Nat} {d : DefI}, defs[i]? = some d → (gOf_ K P defs).fa i = faOf K d.x := fun {i d} hd => by
    show faOf K (P.fn.getD i "") = _
    rw [getD_some (fnx hd)]
  have ca : ∀ {i : Nat} {x : Str}, P.acl[i]? = some x → (gOf_ K P defs).ca i = faOf K x := fun {i x} hx => by
    show faOf K (P.acl.getD i "") = _
    rw [getD_some hx]
  refine ⟨fun x hx => PySem.W.mg_none_of X G (isFree_none (List.all_eq_true.mp C.bs x hx)), fun i d hd => ?_, by rw [hfn, List.length_map], fun i x hx => ?_, fun i x hx => ?_, fun x d hx => ?_, fun i j x y hx hy => ?_, fun e he => ?_, fun i d hd hl oc od kV doc pm an cdv ct osl lk => ?_⟩
  · obtain ⟨h1, h2⟩ := chk_fun C (List.mem_of_getElem? hd)
    rw [fa hd]
    exact ⟨fnx hd, PySem.W.mg_of X G h1, h2⟩
  · rw [ca hx]
    have hm := List.mem_of_getElem? hx
    unfold Prg.acl at hm
    rcases List.mem_append.mp hm with hm | hm
    · exact PySem.W.mg_of X G (chkC_ok (List.all_eq_true.mp C.cs x hm)).1
    · have e := C.ss
      rw [Bool.and_eq_true] at e
      exact PySem.W.mg_of X G (isRef_fa (List.all_eq_true.mp e.2 x hm))
  · rw [ca (Prg.acl_of hx)]
    exact (chkC_ok (List.all_eq_true.mp C.cs x (List.mem_of_getElem? hx))).2
  · have e := List.all_eq_true.mp C.ks (x, d) hx
    unfold chkK at e
    split at e
    · rename_i v hv
      obtain ⟨u, r, k⟩ := conB_ok e
      exact ⟨v, u, PySem.W.mg_of X G hv, r, k _ rfl⟩
    · cases e
  · rw [ca (Prg.acl_of hx), ca hy]
    have e := C.ss
    rw [Bool.and_eq_true] at e
    have e := e.1
    unfold chkS at e
    have hi := (List.getElem?_eq_some_iff.mp hx).1
    have hj := (List.getElem?_eq_some_iff.mp hy).1
    have e2 := List.all_eq_true.mp (List.all_eq_true.mp e i (List.mem_range.mpr hi)) j (List.mem_range.mpr hj)
    rw [getD_some hx, getD_some hy, Bool.and_eq_true, decide_eq_true_eq, decide_eq_true_eq] at e2
    exact e2
  · obtain ⟨d, hd, hx, hs⟩ := her e he
    obtain ⟨h1, h2⟩ := chk_fun C (List.mem_of_getElem? hd)
    rw [fa hd, ← hx, ← hs]
    exact ⟨fnx hd, h2⟩
  · have hm := List.mem_of_getElem? hd
    have ct_ := C.tt
    unfold chkT at ct_
    rw [Bool.and_eq_true, Bool.and_eq_true, decide_eq_true_eq, List.all_eq_true] at ct_
    obtain ⟨⟨t1, t2⟩, t3⟩ := ct_
    obtain ⟨⟨c, Pt⟩, ht⟩ := Option.isSome_iff_exists.mp (t1 d (List.mem_filter.mpr ⟨hm, hl⟩))
    have mem := tabs_mem hm hl ht
    rw [fa hd] at lk
    have hcd := tab_code ht (chk_fun C hm).1 lk
    have hcd : cdv = .ref c := hcd
    refine ⟨c, Pt, TB (c, Pt) (List.mem_map.mpr ⟨_, mem, rfl⟩), hcd, List.mem_map.mpr ⟨_, mem, rfl⟩, fun p hp ep => ?_⟩
    obtain ⟨q, hq, rfl⟩ := List.mem_map.mp hp
    have eq := nodup_map_inj t3 q hq (d, (c, Pt)) mem ep
    rw [eq]
    rfl
/-- the law's promise at the head's heap -/
theorem law_at {l : PySem.W.OpenLaw} {w : World} {n k i : Nat} {d : DefI} {x : Str} (C : Chk K P defs ts) (X : K.In h) (G : h.Ns mainGlobals mg) (hts : ∀ p ∈ ts, h.get? p = some { cls := .none, data := .fields #[] }) (hfn : P.fn = defs.map (·.x))
    (her : ∀ e, P.er = some e → ∃ d, defs[e.i]? = some d ∧ d.x = e.x ∧ d.st = e.st) (ok : ∀ d ∈ defs, d.Ok P) (hd : defs[i]? = some d) (hps : d.ps = [x]) {fa : Addr} (hfa : mg d.x = some (.ref fa))
    (law : ∀ ns : List Int, ns.length ≤ n → (∀ z ∈ ns, Builtin.Int.intBits z ≤ 1048576) → ∃ st, run defs k i [.d (.scr ns)] [] = .ok (.d (.bl true)) st) : LawAtS l w K (L2N.CX l.prog w) k n x mg fa h := by
  have hm := List.mem_of_getElem? hd
  obtain ⟨h1, fd, F⟩ := chk_fun C hm
  have ef := hfa.symm.trans (PySem.W.mg_of X G h1)
  cases ef
  have efa : (gOf_ K P defs).fa i = faOf K d.x := by
    show faOf K (P.fn.getD i "") = _
    rw [getD_some (by rw [hfn, List.getElem?_map, hd]; rfl)]
  have ct_ := C.tt
  unfold chkT at ct_
  rw [Bool.and_eq_true, Bool.and_eq_true, decide_eq_true_eq, List.all_eq_true, List.all_eq_true] at ct_
  obtain ⟨⟨t1, t2⟩, t3⟩ := ct_
  have tab : ∀ p ∈ (tabsOf K defs).map (·.2), PySem.W.codeHdIn K p.1 p.2 = true ∧ K.lookup p.2 = none ∧ p.2 ∈ ts := fun p hp => by
    obtain ⟨q, hq, rfl⟩ := List.mem_map.mp hp
    have e := t2 q hq
    rw [Bool.and_eq_true, Bool.and_eq_true] at e
    exact ⟨e.1, Option.isNone_iff_eq_none.mp e.2.1, by simpa using e.2.2⟩
  refine ⟨fd, (tabsOf K defs).map (·.2), spOf (gOf_ K P defs) (run defs k) i, fun p hp => hts _ (tab p hp).2.2, fun p hp => (tab p hp).2.1, fun p hp => PySem.W.codeHd_of_K X (tab p hp).1, fun s u => ?_, fun H a ns hl hb hT hS => ?_, fun base KX GX TB => ?_⟩
  · obtain ⟨oc, od, kV, doc, pm, an, cdv, ct, osl, rfl, lk, hcd⟩ := F.ex
    refine .of_eq ?_
    have := (ok d hm).bnd kV doc pm an cdv ct [u] (by rw [hps]; rfl)
    rw [hps] at this
    exact this
  · obtain ⟨st, hr⟩ := law ns hl hb
    refine ⟨⟨[], []⟩, [], [.d (.scr ns)], ⟨rfl, List.nodup_nil, fun a ha => (nomatch ha), fun a ha => (nomatch ha), fun a ha => (nomatch ha), fun i a c e => (by simp at e), fun p hp => ?_⟩, .cons ?_ .nil, ?_⟩
    · obtain ⟨q, hq, rfl⟩ := List.mem_map.mp hp
      exact .nil (hT q.2 (List.mem_map.mpr ⟨q, hq, rfl⟩))
    · refine .scr ?_
      rcases hS with z | z
      · refine .inl ⟨z, fun y => ?_⟩
        rcases y with ⟨j, c, e, _⟩ | y
        · simp at e
        · nomatch y
      · exact .inr z
    · rw [hr]
      intro b H' s r
      cases r
      rfl
  · have Gd := grd (Pg := l.prog) (w := w) C KX GX hfn her TB
    have fo := all_levels Gd ok k i d hd fd (efa ▸ F)
    rw [efa, hps] at fo
    exact fo
theorem lands_no {Pg : Program} {w : World} {H : Hp} {s : Shared} {e : Value} {s' : Shared} (h : L2N.CX Pg w [] H s (fun _ _ _ => False) e s') : False := by
  obtain ⟨_, _, _, _, _, _, _, _, _, _, _, _, z⟩ := h
  exact z
end
end DL

/-! DL: running the combinators by simp. -/
namespace DL
open PySem PySem.Spec PyProof.Rows L2
def Out.seq (o : Out) (k : DenS) : Out := match o with
  | .nx env st => k env st
  | o => o
theorem bind_congr {α β : Type} {r r' : Res α} {k : α → Stor → Res β} (h : r = r') : r.bind k = r'.bind k := by rw [h]
theorem then_congr {α : Type} {r r' : Res α} {env : Envi} {k : α → Stor → Out} (h : r = r') : r.then env k = r'.then env k := by rw [h]
theorem seq_congr {o o' : Out} {k : DenS} (h : o = o') : o.seq k = o'.seq k := by rw [h]
section
variable {α β : Type} {st : Stor} {env : Envi}
@[simp] theorem sSeq_eq {f k : DenS} : sSeq f k env st = (f env st).seq k := rfl
@[simp] theorem seq_nx {k : DenS} : (Out.nx env st).seq k = k env st := rfl
@[simp] theorem seq_rt {w : W} {k : DenS} : (Out.rt w st).seq k = .rt w st := rfl
@[simp] theorem seq_er {x : Exn} {k : DenS} : (Out.er x env st).seq k = .er x env st := rfl
@[simp] theorem seq_bk {k : DenS} : (Out.bk env st).seq k = .bk env st := rfl
@[simp] theorem seq_ct {k : DenS} : (Out.ct env st).seq k = .ct env st := rfl
@[simp] theorem seq_no {k : DenS} : Out.no.seq k = .no := rfl
@[simp] theorem bind_ok {a : α} {k : α → Stor → Res β} : (Res.ok a st).bind k = k a st := rfl
@[simp] theorem bind_err {x : Exn} {k : α → Stor → Res β} : (Res.err x st : Res α).bind k = .err x st := rfl
@[simp] theorem bind_no {k : α → Stor → Res β} : (Res.no : Res α).bind k = .no := rfl
@[simp] theorem then_ok {a : α} {k : α → Stor → Out} : (Res.ok a st).then env k = k a st := rfl
@[simp] theorem then_err {x : Exn} {k : α → Stor → Out} : (Res.err x st : Res α).then env k = .er x env st := rfl
@[simp] theorem then_no {k : α → Stor → Out} : (Res.no : Res α).then env k = .no := rfl
@[simp] theorem ofO_some {a : α} : Res.ofO (some a) st = .ok a st := rfl
@[simp] theorem ofO_none : Res.ofO (none : Option α) st = .no := rfl
@[simp] theorem sv_d {x : D} : W.sv (.d x) = .d x := rfl
@[simp] theorem sv_n {l : List D} : W.sv (.n l) = .d (.lst l) := rfl
@[simp] theorem sv_r {i : Nat} : W.sv (.r i) = .r i := rfl
@[simp] theorem w_d {x : D} : SV.w (.d x) = some (.d x) := rfl
@[simp] theorem w_r {i : Nat} : SV.w (.r i) = some (.r i) := rfl
@[simp] theorem w_x {x : Exn} : SV.w (.x x) = none := rfl
@[simp] theorem asB_bl {b : Bool} : W.asB (.d (.bl b)) = some b := rfl
@[simp] theorem asI_int {i : Int} : W.asI (.d (.int i)) = some i := rfl
@[simp] theorem toD_d {x : D} : W.toD (.d x) = some x := rfl
@[simp] theorem toD_n {l : List D} : W.toD (.n l) = some (.lst l) := rfl
@[simp] theorem asL_lst {l : List D} : W.asL st (.d (.lst l)) = some l := rfl
@[simp] theorem asL_n {l : List D} : W.asL st (.n l) = some l := rfl
@[simp] theorem asT_tup {l : List D} : W.asT (.d (.tup l)) = some l := rfl
@[simp] theorem neg_int {i : Int} : W.neg (.d (.int i)) = some (.d (.int (-i))) := rfl
@[simp] theorem setE_cons0 {e : Option SV} {r : Envi} {s : SV} : setE (e :: r) 0 s = some (some s :: r) := by simp [setE]
@[simp] theorem setE_consS {e : Option SV} {r : Envi} {i : Nat} {s : SV} : setE (e :: r) (i + 1) s = (setE r i s).map (e :: ·) := by
  unfold setE
  by_cases h : i < r.length
  · simp [h]
  · simp [h]
/-! ### fin -/
@[simp] theorem fin_rtd {n : Nat} {d : D} : fin n (.rt (.d d) st) = .ok (.d d) (st.take n) := rfl
@[simp] theorem fin_rtn {n : Nat} {l : List D} : fin n (.rt (.n l) st) = .ok (.n l) (st.take n) := rfl
@[simp] theorem fin_nx {n : Nat} : fin n (.nx env st) = .ok (.d .non) (st.take n) := rfl
@[simp] theorem fin_er {n : Nat} {x : Exn} : fin n (.er x env st) = .err x (st.take n) := rfl
@[simp] theorem okLen_iff {α : Type} {l : List α} : (okLen l = true) = (l.length ≤ 16777216) := by unfold okLen; simp
end
section
variable {st : Stor} {w1 w2 : W} {x y : D} {l m : List D}
theorem dEqv_of (e1 : w1.asD st = some x) (e2 : w2.asD st = some y) (h1 : x.okd 64 = true) (h2 : y.okd 64 = true) : dEqv st w1 w2 = some (x.eqv y) := by
  obtain ⟨p, a1, a2, a3⟩ := okd_py h1
  obtain ⟨q, b1, b2, b3⟩ := okd_py h2
  unfold dEqv W.py
  rw [e1, e2]
  simp only [Option.bind_some, a1, b1]
  rw [if_pos (by unfold SeqAt.shaped; rw [a2, b2, decide_eq_true a3, decide_eq_true b3]; rfl), eqv_py a1 b1]
@[simp] theorem dEq_dd (h1 : x.okd 64 = true) (h2 : y.okd 64 = true) : dEq st (.d x) (.d y) = some (.d (.bl (x.eqv y))) := by unfold dEq; rw [dEqv_of rfl rfl h1 h2]; rfl
@[simp] theorem dEq_nd (h1 : (D.lst l).okd 64 = true) (h2 : y.okd 64 = true) : dEq st (.n l) (.d y) = some (.d (.bl ((D.lst l).eqv y))) := by unfold dEq; rw [dEqv_of (x := .lst l) rfl rfl h1 h2]; rfl
@[simp] theorem dEq_dn (h1 : x.okd 64 = true) (h2 : (D.lst m).okd 64 = true) : dEq st (.d x) (.n m) = some (.d (.bl (x.eqv (.lst m)))) := by unfold dEq; rw [dEqv_of (y := .lst m) rfl rfl h1 h2]; rfl
@[simp] theorem dEq_nn (h1 : (D.lst l).okd 64 = true) (h2 : (D.lst m).okd 64 = true) : dEq st (.n l) (.n m) = some (.d (.bl ((D.lst l).eqv (.lst m)))) := by unfold dEq; rw [dEqv_of (x := .lst l) (y := .lst m) rfl rfl h1 h2]; rfl
@[simp] theorem dNe_dd (h1 : x.okd 64 = true) (h2 : y.okd 64 = true) : dNe st (.d x) (.d y) = some (.d (.bl (!x.eqv y))) := by unfold dNe; rw [dEqv_of rfl rfl h1 h2]; rfl
@[simp] theorem dNe_nd (h1 : (D.lst l).okd 64 = true) (h2 : y.okd 64 = true) : dNe st (.n l) (.d y) = some (.d (.bl (!(D.lst l).eqv y))) := by unfold dNe; rw [dEqv_of (x := .lst l) rfl rfl h1 h2]; rfl
@[simp] theorem dNe_dn (h1 : x.okd 64 = true) (h2 : (D.lst m).okd 64 = true) : dNe st (.d x) (.n m) = some (.d (.bl (!x.eqv (.lst m)))) := by unfold dNe; rw [dEqv_of (y := .lst m) rfl rfl h1 h2]; rfl
@[simp] theorem dNe_nn (h1 : (D.lst l).okd 64 = true) (h2 : (D.lst m).okd 64 = true) : dNe st (.n l) (.n m) = some (.d (.bl (!(D.lst l).eqv (.lst m)))) := by unfold dNe; rw [dEqv_of (x := .lst l) (y := .lst m) rfl rfl h1 h2]; rfl
end
theorem any_py {x : D} {p : PyData} (hx : x.py = some p) : ∀ {l : List D} {ps : List PyData}, D.pyL l = some ps → (ps.any fun z => PyData.eqv z p) = l.any fun z => D.eqv z x
  | [], ps, h => by cases h; rfl
  | d :: l, ps, h => by
    simp only [D.pyL, Option.bind_eq_some_iff, Option.map_eq_some_iff] at h
    obtain ⟨a, e1, as, e2, rfl⟩ := h
    rw [List.any_cons, List.any_cons, eqv_py e1 hx, any_py hx e2]
section
variable {st : Stor} {w1 w2 : W} {x : D} {l : List D}
theorem dInB_of (e1 : w1.asD st = some x) (e2 : w2.asD st = some (.tup l) ∨ w2.asD st = some (.lst l)) (h1 : x.okd 64 = true) (h2 : D.okL 63 l = true) : dInB st w1 w2 = some (l.any fun z => D.eqv z x) := by
  obtain ⟨p, a1, a2, a3⟩ := okd_py h1
  obtain ⟨ps, b1, b2, b3⟩ := okL_py h2
  have sp : SeqAt.shaped p = true := by unfold SeqAt.shaped; rw [a2, decide_eq_true a3]; rfl
  unfold dInB W.py
  rw [e1]
  simp only [Option.bind_some, a1]
  rcases e2 with e2 | e2
  · have sq : SeqAt.shaped (.tuple ps) = true := by
      unfold SeqAt.shaped
      rw [show PyData.canLay0 (.tuple ps) = true by simpa only [PyData.canLay0] using b2, decide_eq_true (show PyData.depth (.tuple ps) ≤ 64 by simp only [PyData.depth]; omega)]
      rfl
    rw [e2]
    simp only [Option.bind_some, D.py, b1, Option.map_some, sp, sq, Bool.and_self, if_true, any_py a1 b1]
  · have sq : SeqAt.shaped (.list ps) = true := by
      unfold SeqAt.shaped
      rw [show PyData.canLay0 (.list ps) = true by simpa only [PyData.canLay0] using b2, decide_eq_true (show PyData.depth (.list ps) ≤ 64 by simp only [PyData.depth]; omega)]
      rfl
    rw [e2]
    simp only [Option.bind_some, D.py, b1, Option.map_some, sp, sq, Bool.and_self, if_true, any_py a1 b1]
@[simp] theorem dIn_dt (h1 : x.okd 64 = true) (h2 : D.okL 63 l = true) : dIn st (.d x) (.d (.tup l)) = some (.d (.bl (l.any fun z => D.eqv z x))) := by unfold dIn; rw [dInB_of rfl (.inl rfl) h1 h2]; rfl
@[simp] theorem dIn_dl (h1 : x.okd 64 = true) (h2 : D.okL 63 l = true) : dIn st (.d x) (.d (.lst l)) = some (.d (.bl (l.any fun z => D.eqv z x))) := by unfold dIn; rw [dInB_of rfl (.inr rfl) h1 h2]; rfl
@[simp] theorem dIn_dn (h1 : x.okd 64 = true) (h2 : D.okL 63 l = true) : dIn st (.d x) (.n l) = some (.d (.bl (l.any fun z => D.eqv z x))) := by unfold dIn; rw [dInB_of rfl (.inr rfl) h1 h2]; rfl
@[simp] theorem dNotIn_dt (h1 : x.okd 64 = true) (h2 : D.okL 63 l = true) : dNotIn st (.d x) (.d (.tup l)) = some (.d (.bl (!l.any fun z => D.eqv z x))) := by unfold dNotIn; rw [dInB_of rfl (.inl rfl) h1 h2]; rfl
@[simp] theorem dNotIn_dl (h1 : x.okd 64 = true) (h2 : D.okL 63 l = true) : dNotIn st (.d x) (.d (.lst l)) = some (.d (.bl (!l.any fun z => D.eqv z x))) := by unfold dNotIn; rw [dInB_of rfl (.inr rfl) h1 h2]; rfl
@[simp] theorem dNotIn_dn (h1 : x.okd 64 = true) (h2 : D.okL 63 l = true) : dNotIn st (.d x) (.n l) = some (.d (.bl (!l.any fun z => D.eqv z x))) := by unfold dNotIn; rw [dInB_of rfl (.inr rfl) h1 h2]; rfl
end
section
variable {n : Nat} {i j : Int} {b c : Bool} {x y : Str} {l m : List D}
@[simp] theorem okd_non : D.okd n .non = true := by cases n <;> rfl
@[simp] theorem okd_bl : D.okd n (.bl b) = true := by cases n <;> rfl
@[simp] theorem okd_int : D.okd n (.int i) = true := by cases n <;> rfl
@[simp] theorem okd_str : D.okd n (.str x) = PyData.strOk x := by cases n <;> rfl
@[simp] theorem okd_tup : D.okd (n + 1) (.tup l) = D.okL n l := by simp only [D.okd]
@[simp] theorem okd_lst : D.okd (n + 1) (.lst l) = D.okL n l := by simp only [D.okd]
@[simp] theorem okL_nil : D.okL n [] = true := by simp only [D.okL]
@[simp] theorem okL_cons {d : D} : D.okL n (d :: l) = (D.okd n d && D.okL n l) := by simp only [D.okL]
@[simp] theorem okL_append : ∀ {l m : List D}, D.okL n (l ++ m) = (D.okL n l && D.okL n m)
  | [], m => by simp
  | d :: l, m => by simp [okL_append (l := l), Bool.and_assoc]
theorem okL_iff : ∀ {l : List D}, D.okL n l = true ↔ ∀ d ∈ l, D.okd n d = true
  | [] => by simp
  | d :: l => by simp [okL_iff (l := l)]
@[simp] theorem okL_ints : ∀ {ns : List Int}, D.okL n (ns.map D.int) = true
  | [] => by simp
  | i :: ns => by simp [okL_ints (ns := ns)]
mutual
theorem okd_mono : ∀ {n m : Nat} {d : D}, n ≤ m → d.okd n = true → d.okd m = true
  | _, _, .non, _, _ => by simp
  | _, _, .bl _, _, _ => by simp
  | _, _, .int _, _, _ => by simp
  | _, _, .str _, _, h => by simpa using h
  | 0, _, .tup _, _, h => by simp [D.okd] at h
  | 0, _, .lst _, _, h => by simp [D.okd] at h
  | n + 1, 0, .tup _, hl, _ => by omega
  | n + 1, 0, .lst _, hl, _ => by omega
  | n + 1, m + 1, .tup l, hl, h => by
    simp only [okd_tup] at h ⊢
    exact okL_mono (by omega) h
  | n + 1, m + 1, .lst l, hl, h => by
    simp only [okd_lst] at h ⊢
    exact okL_mono (by omega) h
  | n, _, .fn _, _, h => by cases n <;> simp [D.okd] at h
  | n, _, .scr _, _, h => by cases n <;> simp [D.okd] at h
theorem okL_mono : ∀ {n m : Nat} {l : List D}, n ≤ m → D.okL n l = true → D.okL m l = true
  | _, _, [], _, _ => by simp
  | n, m, d :: l, hl, h => by
    simp only [okL_cons, Bool.and_eq_true] at h ⊢
    exact ⟨okd_mono hl h.1, okL_mono hl h.2⟩
end
@[simp] theorem eqv_ii : D.eqv (.int i) (.int j) = decide (i = j) := by simp only [D.eqv]
@[simp] theorem eqv_bb : D.eqv (.bl b) (.bl c) = (b == c) := by simp only [D.eqv]
@[simp] theorem eqv_ss : D.eqv (.str x) (.str y) = decide (x = y) := by simp only [D.eqv]
@[simp] theorem eqv_nn : D.eqv .non .non = true := by simp only [D.eqv]
@[simp] theorem eqv_tt : D.eqv (.tup l) (.tup m) = D.eqvL l m := by simp only [D.eqv]
@[simp] theorem eqv_ll : D.eqv (.lst l) (.lst m) = D.eqvL l m := by simp only [D.eqv]
@[simp] theorem eqvL_nil : D.eqvL [] [] = true := by simp only [D.eqvL]
@[simp] theorem eqvL_nc {d : D} : D.eqvL [] (d :: m) = false := by simp only [D.eqvL]
@[simp] theorem eqvL_cn {d : D} : D.eqvL (d :: l) [] = false := by simp only [D.eqvL]
@[simp] theorem eqvL_cons {d e : D} : D.eqvL (d :: l) (e :: m) = (D.eqv d e && D.eqvL l m) := by simp only [D.eqvL]
@[simp] theorem eqvL_ints : ∀ {ns ms : List Int}, D.eqvL (ns.map D.int) (ms.map D.int) = decide (ns = ms)
  | [], [] => by simp
  | [], _ :: _ => by simp
  | _ :: _, [] => by simp
  | i :: ns, j :: ms => by simp [eqvL_ints (ns := ns) (ms := ms), Bool.decide_and]
mutual
theorem eqv_self : ∀ {n : Nat} {d : D}, d.okd n = true → D.eqv d d = true
  | _, .non, _ => by simp
  | _, .bl _, _ => by simp
  | _, .int _, _ => by simp
  | _, .str _, _ => by simp
  | 0, .tup _, h => by simp [D.okd] at h
  | 0, .lst _, h => by simp [D.okd] at h
  | n + 1, .tup l, h => by simp only [okd_tup] at h; simpa using eqvL_self h
  | n + 1, .lst l, h => by simp only [okd_lst] at h; simpa using eqvL_self h
  | n, .fn _, h => by cases n <;> simp [D.okd] at h
  | n, .scr _, h => by cases n <;> simp [D.okd] at h
theorem eqvL_self : ∀ {n : Nat} {l : List D}, D.okL n l = true → D.eqvL l l = true
  | _, [], _ => by simp
  | n, d :: l, h => by
    simp only [okL_cons, Bool.and_eq_true] at h
    simp [eqv_self h.1, eqvL_self h.2]
end
end
mutual
/-- no list is too long -/
def D.fit : D → Bool
  | .tup l => decide (l.length ≤ 16777216) && D.fitL l
  | .lst l => decide (l.length ≤ 16777216) && D.fitL l
  | _ => true
def D.fitL : List D → Bool
  | [] => true
  | d :: l => D.fit d && D.fitL l
end
section
variable {l : List D} {b : Bool} {i : Int} {s : Str}
@[simp] theorem fit_non : D.fit .non = true := by simp only [D.fit]
@[simp] theorem fit_bl : D.fit (.bl b) = true := by simp only [D.fit]
@[simp] theorem fit_int : D.fit (.int i) = true := by simp only [D.fit]
@[simp] theorem fit_str : D.fit (.str s) = true := by simp only [D.fit]
@[simp] theorem fit_tup : D.fit (.tup l) = (decide (l.length ≤ 16777216) && D.fitL l) := by simp only [D.fit]
@[simp] theorem fit_lst : D.fit (.lst l) = (decide (l.length ≤ 16777216) && D.fitL l) := by simp only [D.fit]
@[simp] theorem fitL_nil : D.fitL [] = true := by simp only [D.fitL]
@[simp] theorem fitL_cons {d : D} : D.fitL (d :: l) = (D.fit d && D.fitL l) := by simp only [D.fitL]
theorem fitL_iff : ∀ {l : List D}, D.fitL l = true ↔ ∀ d ∈ l, D.fit d = true
  | [] => by simp
  | d :: l => by simp [fitL_iff (l := l)]
@[simp] theorem fitL_ints : ∀ {ns : List Int}, D.fitL (ns.map D.int) = true
  | [] => by simp
  | i :: ns => by simp [fitL_ints (ns := ns)]
end
theorem pairs_len : ∀ {l m : List D}, (pairsD l m).length ≤ l.length
  | [], _ => by simp [pairsD]
  | _ :: _, [] => by simp [pairsD]
  | x :: l, y :: m => by simp only [pairsD, List.length_cons]; exact Nat.succ_le_succ pairs_len
theorem zip_self : ∀ (l : List D), pairsD l l = l.map fun d => .tup [d, d]
  | [] => rfl
  | d :: l => by rw [pairsD, zip_self l]; rfl
theorem atI_nat' {α : Type} {l : List α} {n : Nat} : atI l (n : Int) = l[n]? := by
  unfold atI ixN
  rw [if_pos (by omega)]
  by_cases h : n < l.length
  · rw [if_pos (by omega)]
    simp
  · rw [if_neg (by omega), List.getElem?_eq_none (by omega)]
    rfl
/-! ### operators -/
section
variable {st : Stor} {i j : Int} {a b : List D}
@[simp] theorem dAdd_ii : dAdd st (.d (.int i)) (.d (.int j)) = some (.d (.int (i + j))) := rfl
@[simp] theorem dSub_ii : dSub st (.d (.int i)) (.d (.int j)) = some (.d (.int (i - j))) := rfl
@[simp] theorem dLt_ii : dLt st (.d (.int i)) (.d (.int j)) = some (.d (.bl (decide (i < j)))) := rfl
@[simp] theorem dLe_ii : dLe st (.d (.int i)) (.d (.int j)) = some (.d (.bl (decide (i ≤ j)))) := rfl
@[simp] theorem dGt_ii : dGt st (.d (.int i)) (.d (.int j)) = some (.d (.bl (decide (j < i)))) := rfl
@[simp] theorem dGe_ii : dGe st (.d (.int i)) (.d (.int j)) = some (.d (.bl (decide (j ≤ i)))) := rfl
theorem dMul_ii (h : okMul i j = true) : dMul st (.d (.int i)) (.d (.int j)) = some (.d (.int (i * j))) := by unfold dMul; simp [h]
theorem okMul_l (h : i.natAbs < 18446744073709551616) : okMul i j = true := by unfold okMul small64; rw [decide_eq_true h]; rfl
theorem okMul_r (h : j.natAbs < 18446744073709551616) : okMul i j = true := by unfold okMul small64; rw [decide_eq_true h, Bool.or_true]; rfl
theorem okMul_b (h : i.natAbs.log2 + j.natAbs.log2 < 1000000) : okMul i j = true := by unfold okMul; rw [decide_eq_true h, Bool.or_true]
theorem dFdiv_ii (h1 : 0 < j) (h2 : j.natAbs.log2 < 9000) : dFdiv st (.d (.int i)) (.d (.int j)) = some (.d (.int (i / j))) := by unfold dFdiv; simp [h1, h2]
theorem dMod_ii (h1 : 0 < j) : dMod st (.d (.int i)) (.d (.int j)) = some (.d (.int (i % j))) := by unfold dMod; simp [h1]
@[simp] theorem dAdd_tt (h : a.length + b.length ≤ 16777216) : dAdd st (.d (.tup a)) (.d (.tup b)) = some (.d (.tup (a ++ b))) := by unfold dAdd; simp [h]
@[simp] theorem dAdd_ll (h : a.length + b.length ≤ 16777216) : dAdd st (.d (.lst a)) (.d (.lst b)) = some (.n (a ++ b)) := by unfold dAdd; simp [h]
@[simp] theorem dAdd_ln (h : a.length + b.length ≤ 16777216) : dAdd st (.d (.lst a)) (.n b) = some (.n (a ++ b)) := by unfold dAdd; simp [h]
@[simp] theorem dAdd_nl (h : a.length + b.length ≤ 16777216) : dAdd st (.n a) (.d (.lst b)) = some (.n (a ++ b)) := by unfold dAdd; simp [h]
@[simp] theorem dAdd_nn (h : a.length + b.length ≤ 16777216) : dAdd st (.n a) (.n b) = some (.n (a ++ b)) := by unfold dAdd; simp [h]
@[simp] theorem dLen_t : dLen st [.d (.tup a)] = some (.d (.int a.length)) := rfl
@[simp] theorem dLen_l : dLen st [.d (.lst a)] = some (.d (.int a.length)) := rfl
@[simp] theorem dLen_n : dLen st [.n a] = some (.d (.int a.length)) := rfl
theorem dMul_tk (h1 : i.natAbs ≤ 10000) (h3 : a.length ≤ 1000) : dMul st (.d (.tup a)) (.d (.int i)) = some (.d (.tup (List.replicate i.toNat a).flatten)) := by unfold dMul; simp [h1, h3]
theorem dMul_nk (h1 : i.natAbs ≤ 1000000) (h3 : a.length * i.toNat ≤ 16777216) : dMul st (.n a) (.d (.int i)) = some (.n (List.replicate i.toNat a).flatten) := by unfold dMul; simp [h1, h3]
@[simp] theorem dIx_t : dIx st (.d (.tup a)) (.d (.int i)) = (atI a i).map .d := rfl
@[simp] theorem dIx_l : dIx st (.d (.lst a)) (.d (.int i)) = (atI a i).map .d := rfl
@[simp] theorem dIx_n : dIx st (.n a) (.d (.int i)) = (atI a i).map .d := rfl
@[simp] theorem dIx_r {j : Nat} : dIx st (.r j) (.d (.int i)) = (cellL st j).bind fun l => (atI l i).map .d := by
  show (W.asL st (.r j)).bind _ = _
  unfold W.asL cellL
  rfl
@[simp] theorem cellL_0 {l : List D} {r : Stor} : cellL (.lst l :: r) 0 = some l := rfl
@[simp] theorem cellL_S {c : Cell} {r : Stor} {j : Nat} : cellL (c :: r) (j + 1) = cellL r j := by unfold cellL; simp
@[simp] theorem envR_0 {j : Nat} {r : Envi} : envR (some (.r j) :: r) 0 = some j := rfl
@[simp] theorem envR_d {x : D} {r : Envi} : envR (some (.d x) :: r) 0 = none := rfl
@[simp] theorem envR_n {r : Envi} : envR (none :: r) 0 = none := rfl
@[simp] theorem envR_S {c : Option SV} {r : Envi} {j : Nat} : envR (c :: r) (j + 1) = envR r j := by unfold envR; simp
@[simp] theorem atI_0 {α : Type} {x : α} {r : List α} : atI (x :: r) 0 = some x := by
  rw [show (0 : Int) = ((0 : Nat) : Int) from rfl, atI_nat']
  rfl
@[simp] theorem atI_1 {α : Type} {x y : α} {r : List α} : atI (x :: y :: r) 1 = some y := by
  rw [show (1 : Int) = ((1 : Nat) : Int) from rfl, atI_nat']
  rfl
@[simp] theorem ixN_0 {n : Nat} : ixN (n + 1) 0 = some 0 := by
  unfold ixN
  rw [if_pos (by omega), if_pos (by omega)]
  rfl
@[simp] theorem ixN_1 {n : Nat} : ixN (n + 2) 1 = some 1 := by
  unfold ixN
  rw [if_pos (by omega), if_pos (by omega)]
  rfl
@[simp] theorem dSl_t {lo hi : Option Int} : dSl st (.d (.tup a)) lo hi = some (.d (.tup (cutD a lo hi))) := rfl
@[simp] theorem dSl_l {lo hi : Option Int} : dSl st (.d (.lst a)) lo hi = some (.n (cutD a lo hi)) := rfl
@[simp] theorem dSl_n {lo hi : Option Int} : dSl st (.n a) lo hi = some (.n (cutD a lo hi)) := rfl
@[simp] theorem dTuple_t : dTuple st [.d (.tup a)] = some (.d (.tup a)) := rfl
@[simp] theorem dTuple_l : dTuple st [.d (.lst a)] = some (.d (.tup a)) := rfl
@[simp] theorem dTuple_n : dTuple st [.n a] = some (.d (.tup a)) := rfl
@[simp] theorem dList_t : dList st [.d (.tup a)] = some (.n a) := rfl
@[simp] theorem dList_l : dList st [.d (.lst a)] = some (.n a) := rfl
@[simp] theorem dList_n : dList st [.n a] = some (.n a) := rfl
@[simp] theorem dList_s {ns : List Int} : dList st [.d (.scr ns)] = some (.n (ns.map D.int)) := rfl
@[simp] theorem dMax_ii : dMax st [.d (.int i), .d (.int j)] = some (.d (.int (if j > i then j else i))) := rfl
@[simp] theorem dMin_ii : dMin st [.d (.int i), .d (.int j)] = some (.d (.int (if j < i then j else i))) := rfl
@[simp] theorem dAbs_i : dAbs st [.d (.int i)] = some (.d (.int (if i < 0 then -i else i))) := rfl
@[simp] theorem dInt_i : dInt st [.d (.int i)] = some (.d (.int i)) := rfl
@[simp] theorem dRev_t : dRev st (.d (.tup a)) = some (.d (.tup a.reverse)) := rfl
@[simp] theorem dRev_l : dRev st (.d (.lst a)) = some (.n a.reverse) := rfl
@[simp] theorem dRev_n : dRev st (.n a) = some (.n a.reverse) := rfl
@[simp] theorem seqD_t : W.seqD (.d (.tup a)) = some a := rfl
@[simp] theorem seqD_l : W.seqD (.d (.lst a)) = some a := rfl
@[simp] theorem seqD_n : W.seqD (.n a) = some a := rfl
@[simp] theorem zipO_tt : zipO (.d (.tup a)) (.d (.tup b)) = some (pairsD a b) := rfl
@[simp] theorem zipO_ll : zipO (.d (.lst a)) (.d (.lst b)) = some (pairsD a b) := rfl
@[simp] theorem zipO_nn : zipO (.n a) (.n b) = some (pairsD a b) := rfl
@[simp] theorem zipO_ln : zipO (.d (.lst a)) (.n b) = some (pairsD a b) := rfl
@[simp] theorem zipO_nl : zipO (.n a) (.d (.lst b)) = some (pairsD a b) := rfl
@[simp] theorem lsD_l : W.lsD (.d (.lst a)) = some a := rfl
@[simp] theorem lsD_n : W.lsD (.n a) = some a := rfl
theorem atI_n {α : Type} {l : List α} {n : Nat} : atI l (n : Int) = l[n]? := atI_nat'
theorem atI_m1 {α : Type} {l : List α} : atI l (-1) = l.getLast? := by
  unfold atI ixN
  rw [if_neg (by decide)]
  by_cases h : 0 < l.length
  · rw [if_pos (by omega), List.getLast?_eq_getElem?]
    simp only [Option.bind_some]
    congr 1
    omega
  · have : l = [] := List.length_eq_zero_iff.mp (by omega)
    subst this
    rfl
end
/-! ### slices -/
section
variable {l : List D} {n : Nat}
@[simp] theorem cutD_all : DL.cutD l none none = l := by unfold DL.cutD; simp [HT.sIx_none]
@[simp] theorem cutD_to : DL.cutD l none (some (n : Int)) = l.take n := by
  unfold DL.cutD
  rw [HT.sIx_none, HT.sIx_nat, List.drop_zero, Nat.sub_zero]
  rcases Nat.le_total n l.length with h | h
  · rw [Nat.min_eq_left h]
  · rw [Nat.min_eq_right h, List.take_of_length_le (Nat.le_refl _), List.take_of_length_le h]
@[simp] theorem cutD_from : DL.cutD l (some (n : Int)) none = l.drop n := by
  unfold DL.cutD
  rw [HT.sIx_none, HT.sIx_nat]
  rcases Nat.le_total n l.length with h | h
  · rw [Nat.min_eq_left h]
    exact List.take_of_length_le (by rw [List.length_drop]; exact Nat.le_refl _)
  · rw [Nat.min_eq_right h, List.drop_of_length_le h]
    simp
@[simp] theorem cutD_but : DL.cutD l none (some (-1)) = l.dropLast := by
  unfold DL.cutD HT.sIx
  simp only [List.drop_zero, Nat.sub_zero]
  rw [if_pos (by decide), List.dropLast_eq_take]
  congr 1
  omega
end
/-! ### ranges -/
section
variable {n k : Int} {st : Stor}
theorem rng1_int (h1 : n.natAbs < 4611686018427387904) : rng1 n st = .ok (rangeD 0 n.toNat) st := by
  unfold rng1
  rw [decide_eq_true h1]
  rfl
theorem rng1_nat {n : Nat} (h : n < 4611686018427387904) : rng1 (n : Int) st = .ok (rangeD 0 n) st := by
  rw [rng1_int (by omega), Int.toNat_natCast]
theorem rng2_int (h1 : n.natAbs < 4611686018427387904) (h2 : k.natAbs < 4611686018427387904) : rng2 n k st = .ok (rangeD n (k - n).toNat) st := by
  unfold rng2
  rw [decide_eq_true h1, decide_eq_true h2]
  rfl
end
@[simp] theorem rangeD_len {lo : Int} {n : Nat} : (rangeD lo n).length = n := by unfold rangeD; simp
/-! ### is None -/
section
variable {st : Stor} {i : Int} {b : Bool} {s : Str} {l : List D}
@[simp] theorem dIsN_bb {b c : Bool} : dIsN st (.d (.bl b)) (.d (.bl c)) = some (.d (.bl (decide (b = c)))) := rfl
@[simp] theorem dNotN_bb {b c : Bool} : dNotN st (.d (.bl b)) (.d (.bl c)) = some (.d (.bl (!decide (b = c)))) := rfl
@[simp] theorem dIsN_non : dIsN st (.d .non) (.d .non) = some (.d (.bl true)) := rfl
@[simp] theorem dIsN_bl : dIsN st (.d (.bl b)) (.d .non) = some (.d (.bl false)) := rfl
@[simp] theorem dIsN_int : dIsN st (.d (.int i)) (.d .non) = some (.d (.bl false)) := rfl
@[simp] theorem dIsN_str : dIsN st (.d (.str s)) (.d .non) = some (.d (.bl false)) := rfl
@[simp] theorem dIsN_tup : dIsN st (.d (.tup l)) (.d .non) = some (.d (.bl false)) := rfl
@[simp] theorem dIsN_lst : dIsN st (.d (.lst l)) (.d .non) = some (.d (.bl false)) := rfl
@[simp] theorem dIsN_n : dIsN st (.n l) (.d .non) = some (.d (.bl false)) := rfl
@[simp] theorem dNotN_non : dNotN st (.d .non) (.d .non) = some (.d (.bl false)) := rfl
@[simp] theorem dNotN_bl : dNotN st (.d (.bl b)) (.d .non) = some (.d (.bl true)) := rfl
@[simp] theorem dNotN_int : dNotN st (.d (.int i)) (.d .non) = some (.d (.bl true)) := rfl
@[simp] theorem dNotN_str : dNotN st (.d (.str s)) (.d .non) = some (.d (.bl true)) := rfl
@[simp] theorem dNotN_tup : dNotN st (.d (.tup l)) (.d .non) = some (.d (.bl true)) := rfl
@[simp] theorem dNotN_lst : dNotN st (.d (.lst l)) (.d .non) = some (.d (.bl true)) := rfl
@[simp] theorem dNotN_n : dNotN st (.n l) (.d .non) = some (.d (.bl true)) := rfl
end
/-! ### kinds -/
section
variable {st : Stor} {i : Int} {b : Bool} {s : Str} {l : List D} {T : String}
@[simp] theorem isT_non : isT T st (.d .non) = kitB "NoneType" T := rfl
@[simp] theorem isT_bl : isT T st (.d (.bl b)) = kitB "bool" T := rfl
@[simp] theorem isT_int : isT T st (.d (.int i)) = kitB "int" T := rfl
@[simp] theorem isT_str : isT T st (.d (.str s)) = kitB "str" T := rfl
@[simp] theorem isT_tup : isT T st (.d (.tup l)) = kitB "tuple" T := rfl
@[simp] theorem isT_lst : isT T st (.d (.lst l)) = kitB "list" T := rfl
@[simp] theorem isT_n : isT T st (.n l) = kitB "list" T := rfl
end
@[simp] theorem kitB_NoneType_bool : kitB "NoneType" "bool" = some false := by kernel_rfl
@[simp] theorem kitB_NoneType_int : kitB "NoneType" "int" = some false := by kernel_rfl
@[simp] theorem kitB_NoneType_str : kitB "NoneType" "str" = some false := by kernel_rfl
@[simp] theorem kitB_NoneType_tuple : kitB "NoneType" "tuple" = some false := by kernel_rfl
@[simp] theorem kitB_NoneType_list : kitB "NoneType" "list" = some false := by kernel_rfl
@[simp] theorem kitB_bool_bool : kitB "bool" "bool" = some true := by kernel_rfl
@[simp] theorem kitB_bool_int : kitB "bool" "int" = some true := by kernel_rfl
@[simp] theorem kitB_bool_str : kitB "bool" "str" = some false := by kernel_rfl
@[simp] theorem kitB_bool_tuple : kitB "bool" "tuple" = some false := by kernel_rfl
@[simp] theorem kitB_bool_list : kitB "bool" "list" = some false := by kernel_rfl
@[simp] theorem kitB_int_bool : kitB "int" "bool" = some false := by kernel_rfl
@[simp] theorem kitB_int_int : kitB "int" "int" = some true := by kernel_rfl
@[simp] theorem kitB_int_str : kitB "int" "str" = some false := by kernel_rfl
@[simp] theorem kitB_int_tuple : kitB "int" "tuple" = some false := by kernel_rfl
@[simp] theorem kitB_int_list : kitB "int" "list" = some false := by kernel_rfl
@[simp] theorem kitB_str_bool : kitB "str" "bool" = some false := by kernel_rfl
@[simp] theorem kitB_str_int : kitB "str" "int" = some false := by kernel_rfl
@[simp] theorem kitB_str_str : kitB "str" "str" = some true := by kernel_rfl
@[simp] theorem kitB_str_tuple : kitB "str" "tuple" = some false := by kernel_rfl
@[simp] theorem kitB_str_list : kitB "str" "list" = some false := by kernel_rfl
@[simp] theorem kitB_tuple_bool : kitB "tuple" "bool" = some false := by kernel_rfl
@[simp] theorem kitB_tuple_int : kitB "tuple" "int" = some false := by kernel_rfl
@[simp] theorem kitB_tuple_str : kitB "tuple" "str" = some false := by kernel_rfl
@[simp] theorem kitB_tuple_tuple : kitB "tuple" "tuple" = some true := by kernel_rfl
@[simp] theorem kitB_tuple_list : kitB "tuple" "list" = some false := by kernel_rfl
@[simp] theorem kitB_list_bool : kitB "list" "bool" = some false := by kernel_rfl
@[simp] theorem kitB_list_int : kitB "list" "int" = some false := by kernel_rfl
@[simp] theorem kitB_list_str : kitB "list" "str" = some false := by kernel_rfl
@[simp] theorem kitB_list_tuple : kitB "list" "tuple" = some false := by kernel_rfl
@[simp] theorem kitB_list_list : kitB "list" "list" = some true := by kernel_rfl
/-! ### loops -/
theorem forGo_rel {α β : Type} {tg : D → Envi → Option Envi} {body : DenS} (mk : β → D) (R : α → Envi → Stor → Prop) (step : α → β → α) : ∀ {l : List β} {a : α} {env : Envi} {st : Stor}, R a env st →
    (∀ a x env st, x ∈ l → R a env st → ∃ env1 env2 st2, tg (mk x) env = some env1 ∧ body env1 st = .nx env2 st2 ∧ R (step a x) env2 st2) → ∃ env' st', forGo tg body (l.map mk) env st = .nx env' st' ∧ R (l.foldl step a) env' st'
  | [], a, env, st, h0, _ => ⟨env, st, rfl, h0⟩
  | x :: l, a, env, st, h0, hs => by
    obtain ⟨env1, env2, st2, e1, e2, h2⟩ := hs a x env st List.mem_cons_self h0
    obtain ⟨env', st', e3, h3⟩ := forGo_rel mk R step (l := l) h2 (fun a y env st hy => hs a y env st (List.mem_cons_of_mem _ hy))
    refine ⟨env', st', ?_, h3⟩
    rw [List.map_cons, forGo_cons e1, e2]
    exact e3
/-- a loop that may return -/
theorem forGo_all {β : Type} {tg : D → Envi → Option Envi} {body : DenS} (mk : β → D) (R : Envi → Stor → Prop) : ∀ {l : List β} {env : Envi} {st : Stor}, R env st →
    (∀ x env st, x ∈ l → R env st → ∃ env1 env2 st2, tg (mk x) env = some env1 ∧ body env1 st = .nx env2 st2 ∧ R env2 st2) → ∃ env' st', forGo tg body (l.map mk) env st = .nx env' st' ∧ R env' st' := fun {l env st} h0 hs =>
  forGo_rel mk (fun (_ : Unit) => R) (fun a _ => a) (a := ()) h0 fun _ x env st hx hR => hs x env st hx hR
theorem lcGo_pure {β : Type} {mk : β → D} {f : D → Stor → Res (Option D)} {g : β → Option D} {st : Stor} : ∀ {l : List β}, (∀ x ∈ l, f (mk x) st = .ok (g x) st) → lcGo f (l.map mk) st = .ok (l.filterMap g) st
  | [], _ => rfl
  | x :: l, h => by
    rw [List.map_cons, lcGo, h x List.mem_cons_self]
    simp only [bind_ok]
    rw [lcGo_pure (l := l) fun y hy => h y (List.mem_cons_of_mem _ hy)]
    simp only [bind_ok, List.filterMap_cons]
    cases g x <;> rfl
theorem lcGo_map {β : Type} {mk : β → D} {f : D → Stor → Res (Option D)} {g : β → D} {st : Stor} {l : List β} (h : ∀ x ∈ l, f (mk x) st = .ok (some (g x)) st) : lcGo f (l.map mk) st = .ok (l.map g) st := by
  rw [lcGo_pure (g := fun x => some (g x)) h]
  rw [List.filterMap_eq_map']
/-- a comprehension that draws -/
theorem lcGo_rel {β : Type} {mk : β → D} {f : D → Stor → Res (Option D)} (I : Stor → Prop) (P : D → Prop) : ∀ {l : List β} {st : Stor}, I st → (∀ x ∈ l, ∀ st, I st → ∃ d st', f (mk x) st = .ok (some d) st' ∧ P d ∧ I st') →
    ∃ ds st', lcGo f (l.map mk) st = .ok ds st' ∧ ds.length = l.length ∧ (∀ d ∈ ds, P d) ∧ I st'
  | [], st, h0, _ => ⟨[], st, rfl, rfl, fun _ h => (nomatch h), h0⟩
  | x :: l, st, h0, hs => by
    obtain ⟨d, st1, e1, p1, h1⟩ := hs x List.mem_cons_self st h0
    obtain ⟨ds, st2, e2, l2, p2, h2⟩ := lcGo_rel I P (l := l) h1 fun y hy => hs y (List.mem_cons_of_mem _ hy)
    refine ⟨d :: ds, st2, ?_, by simp [l2], fun y hy => ?_, h2⟩
    · rw [List.map_cons, lcGo, e1]
      simp only [bind_ok]
      rw [e2]
      rfl
    · rcases List.mem_cons.mp hy with rfl | hy
      · exact p1
      · exact p2 y hy
theorem lcStep_eq {tg : D → Envi → Option Envi} {tt : DenB} {te : Den} {env env1 : Envi} {d : D} {st st1 st2 : Stor} {w : W} {x : D} (h1 : tg d env = some env1) (h2 : tt env1 st = .ok true st1) (h3 : te env1 st1 = .ok w st2) (h4 : w.toD = some x) : lcStep tg tt te env d st = .ok (some x) st2 := by
  unfold lcStep
  rw [h1]
  dsimp only
  rw [h2]
  dsimp only
  rw [h3]
  dsimp only
  rw [h4]
theorem lcStep_no {tg : D → Envi → Option Envi} {tt : DenB} {te : Den} {env env1 : Envi} {d : D} {st st1 : Stor} (h1 : tg d env = some env1) (h2 : tt env1 st = .ok false st1) : lcStep tg tt te env d st = .ok none st1 := by
  unfold lcStep
  rw [h1]
  dsimp only
  rw [h2]
theorem whileGo_stop {t : DenB} {body : DenS} {n : Nat} {env : Envi} {st st' : Stor} (h : t env st = .ok false st') : whileGo t body (n + 1) env st = .nx env st' := by
  rw [whileGo, h]
  rfl
theorem whileGo_go {t : DenB} {body : DenS} {n : Nat} {env env2 : Envi} {st st' st2 : Stor} (h : t env st = .ok true st') (hb : body env st' = .nx env2 st2) : whileGo t body (n + 1) env st = whileGo t body n env2 st2 := by
  rw [whileGo, h]
  show loopO (whileGo t body n) (body env st') = _
  rw [hb]
  rfl
theorem rangeD_map (lo : Int) (n : Nat) : rangeD lo n = (List.range n).map fun (i : Nat) => D.int (lo + (i : Int)) := rfl
theorem run_k {defs : List DefI} {k i : Nat} {d : DefI} (hk : 3 ≤ k) (h : defs[i]? = some d) (args : List SV) (st : Stor) : run defs k i args st = runDef d (run defs (k - 1)) (run defs (k - 3)) args st := by
  obtain ⟨j, rfl⟩ : ∃ j, k = j + 3 := ⟨k - 3, by omega⟩
  show (match defs[i]? with | some d => runDef d (run defs (j + 2)) (run defs j) args st | none => .no) = _
  rw [h]
  rfl
end DL

namespace DL
open PySem L2
/-! Loops found in a goal: `generalize hz : forGo _ _ _ _ _ = z` (or lcGo), then one of these rows. -/
theorem forZ {β : Type} {tg : D → Envi → Option Envi} {body : DenS} {L : List D} {env : Envi} {st : Stor} {z : Out} (hz : forGo tg body L env st = z) (mk : β → D) (l : List β) (hl : L = l.map mk) (R : Envi → Stor → Prop) (h0 : R env st)
    (hs : ∀ x ∈ l, ∀ env st, R env st → ∃ env1, tg (mk x) env = some env1 ∧ ∃ env2 st2, body env1 st = .nx env2 st2 ∧ R env2 st2) : ∃ env' st', z = .nx env' st' ∧ R env' st' := by
  subst hl hz
  exact forGo_all mk R h0 fun x env st hx hR => by
    obtain ⟨env1, e1, env2, st2, e2, h2⟩ := hs x hx env st hR
    exact ⟨env1, env2, st2, e1, e2, h2⟩
theorem forZr {α β : Type} {tg : D → Envi → Option Envi} {body : DenS} {L : List D} {env : Envi} {st : Stor} {z : Out} (hz : forGo tg body L env st = z) (mk : β → D) (l : List β) (hl : L = l.map mk) (R : α → Envi → Stor → Prop) (step : α → β → α) (a : α) (h0 : R a env st)
    (hs : ∀ x ∈ l, ∀ a env st, R a env st → ∃ env1, tg (mk x) env = some env1 ∧ ∃ env2 st2, body env1 st = .nx env2 st2 ∧ R (step a x) env2 st2) : ∃ env' st', z = .nx env' st' ∧ R (l.foldl step a) env' st' := by
  subst hl hz
  exact forGo_rel mk R step h0 fun a x env st hx hR => by
    obtain ⟨env1, e1, env2, st2, e2, h2⟩ := hs x hx a env st hR
    exact ⟨env1, env2, st2, e1, e2, h2⟩
/-- a loop whose invariant counts the turns -/
theorem forZn {β : Type} {tg : D → Envi → Option Envi} {body : DenS} {mk : β → D} {R : Nat → Envi → Stor → Prop} : ∀ {l : List β} {i : Nat} {env : Envi} {st : Stor}, R i env st →
    (∀ j (h : j < l.length), ∀ env st, R (i + j) env st → ∃ env1, tg (mk l[j]) env = some env1 ∧ ∃ env2 st2, body env1 st = .nx env2 st2 ∧ R (i + j + 1) env2 st2) → ∃ env' st', forGo tg body (l.map mk) env st = .nx env' st' ∧ R (i + l.length) env' st'
  | [], i, env, st, h0, _ => ⟨env, st, rfl, h0⟩
  | x :: l, i, env, st, h0, hs => by
    obtain ⟨env1, e1, env2, st2, e2, h2⟩ := hs 0 (by simp) env st h0
    obtain ⟨env', st', e3, h3⟩ := forZn (l := l) (i := i + 1) (R := R) h2 (fun j hj env st hR => by
      have := hs (j + 1) (by simpa using hj) env st (by rw [show i + (j + 1) = i + 1 + j by omega]; exact hR)
      rw [show i + (j + 1) + 1 = i + 1 + j + 1 by omega] at this
      exact this)
    refine ⟨env', st', ?_, by rw [show i + (x :: l).length = i + 1 + l.length by simp; omega]; exact h3⟩
    simp only [List.getElem_cons_zero] at e1 e2
    rw [List.map_cons, forGo_cons e1]
    rw [e2]
    exact e3
theorem forZi {β : Type} {tg : D → Envi → Option Envi} {body : DenS} {L : List D} {env : Envi} {st : Stor} {z : Out} (hz : forGo tg body L env st = z) (mk : β → D) (l : List β) (hl : L = l.map mk) (R : Nat → Envi → Stor → Prop) (h0 : R 0 env st)
    (hs : ∀ j (h : j < l.length), ∀ env st, R j env st → ∃ env1, tg (mk l[j]) env = some env1 ∧ ∃ env2 st2, body env1 st = .nx env2 st2 ∧ R (j + 1) env2 st2) : ∃ env' st', z = .nx env' st' ∧ R l.length env' st' := by
  subst hl hz
  have := forZn (i := 0) (R := R) (l := l) (mk := mk) (tg := tg) (body := body) h0 (by simpa using hs)
  simpa using this
theorem lcZ_pure {β : Type} {L : List D} {f : D → Stor → Res (Option D)} {st : Stor} {z : Res (List D)} (hz : lcGo f L st = z) (mk : β → D) (l : List β) (hl : L = l.map mk) (g : β → Option D) (h : ∀ x ∈ l, f (mk x) st = .ok (g x) st) : z = .ok (l.filterMap g) st := by
  subst hl hz
  exact lcGo_pure h
theorem lcZ_map {β : Type} {L : List D} {f : D → Stor → Res (Option D)} {st : Stor} {z : Res (List D)} (hz : lcGo f L st = z) (mk : β → D) (l : List β) (hl : L = l.map mk) (g : β → D) (h : ∀ x ∈ l, f (mk x) st = .ok (some (g x)) st) : z = .ok (l.map g) st := by
  subst hl hz
  exact lcGo_map h
theorem lcZ_rel {β : Type} {L : List D} {f : D → Stor → Res (Option D)} {st : Stor} {z : Res (List D)} (hz : lcGo f L st = z) (mk : β → D) (l : List β) (hl : L = l.map mk) (I : Stor → Prop) (P : D → Prop) (h0 : I st) (hs : ∀ x ∈ l, ∀ st, I st → ∃ d st', f (mk x) st = .ok (some d) st' ∧ P d ∧ I st') :
    ∃ ds st', z = .ok ds st' ∧ ds.length = l.length ∧ (∀ d ∈ ds, P d) ∧ I st' := by
  subst hl hz
  exact lcGo_rel I P h0 hs
def Res.calm {α : Type} : Res α → Res α
  | .ok a st => .ok a st
  | _ => .no
@[simp] theorem calm_ok {α : Type} {a : α} {st : Stor} : (Res.ok a st).calm = .ok a st := rfl
theorem lcStep_def {tg : D → Envi → Option Envi} {tt : DenB} {te : Den} {env : Envi} {d : D} {st : Stor} : lcStep tg tt te env d st = match tg d env with
    | none => .no
    | some env1 => ((tt env1 st).bind fun b st1 => if b then (te env1 st1).bind fun w st2 => (Res.ofO w.toD st2).bind fun x st3 => .ok (some x) st3 else .ok none st1).calm := by
  unfold lcStep
  cases tg d env with
  | none => rfl
  | some env1 =>
    dsimp only
    cases tt env1 st with
    | ok b st1 =>
      cases b with
      | false => rfl
      | true =>
        dsimp only [Res.bind]
        cases te env1 st1 with
        | ok w st2 =>
          dsimp only [Res.bind]
          cases w.toD <;> rfl
        | _ => rfl
    | _ => rfl
@[simp] theorem dAll_map {β : Type} {f : β → Bool} {l : List β} {st : Stor} : dAll st [.n (l.map fun x => D.bl (f x))] = some (.d (.bl (l.all f))) := by
  have h1 : blsOf (l.map fun x => D.bl (f x)) = some (l.map f) := by
    induction l with
    | nil => rfl
    | cons x l ih => simp [blsOf, ih]
  simp [dAll, h1]
theorem rangeD_0 (n : Nat) : rangeD 0 n = (List.range n).map fun (i : Nat) => D.int (i : Int) := by
  rw [rangeD_map]
  simp
@[simp] theorem cutD_fromI {l : List D} {i : Int} (h : 0 ≤ i) : DL.cutD l (some i) none = l.drop i.toNat := by
  obtain ⟨n, rfl⟩ : ∃ n : Nat, i = n := ⟨i.toNat, by omega⟩
  rw [cutD_from, Int.toNat_natCast]
@[simp] theorem cutD_toI {l : List D} {i : Int} (h : 0 ≤ i) : DL.cutD l none (some i) = l.take i.toNat := by
  obtain ⟨n, rfl⟩ : ∃ n : Nat, i = n := ⟨i.toNat, by omega⟩
  rw [cutD_to, Int.toNat_natCast]
@[simp] theorem cutD_last {l : List D} : DL.cutD l (some (-1)) none = l.drop (l.length - 1) := by
  unfold DL.cutD HT.sIx
  simp
  rw [List.take_of_length_le]
  · congr 1
    omega
  · simp
end DL

namespace DL
open PySem PySem.Spec PyProof.Rows L2
/-! ### runs told by a table of known answers -/
def runF (defs : List DefI) (sp : Nat → Nat → List SV → Stor → Option (Res W)) : Nat → Calls
  | 0 => noCalls
  | 1 => noCalls
  | 2 => noCalls
  | k + 3 => fun i args st => match sp (k + 3) i args st with
    | some r => r
    | none => match defs[i]? with
      | some d => runDef d (runF defs sp (k + 2)) (runF defs sp k) args st
      | none => .no
theorem runF_eq {defs : List DefI} {sp : Nat → Nat → List SV → Stor → Option (Res W)} (h : ∀ k i args st r, sp k i args st = some r → run defs k i args st = r) : ∀ k, runF defs sp k = run defs k
  | 0 => rfl
  | 1 => rfl
  | 2 => rfl
  | k + 3 => by
    funext i args st
    have h1 := runF_eq h (k + 2)
    have h2 := runF_eq h k
    simp only [runF, h1, h2]
    split
    · rename_i r e
      exact (h _ _ _ _ _ e).symm
    · rfl
/-! ### loops that may be left -/
theorem forZb {β : Type} {tg : D → Envi → Option Envi} {body : DenS} {L : List D} {env : Envi} {st : Stor} {z : Out} (hz : forGo tg body L env st = z) (mk : β → D) (l : List β) (hl : L = l.map mk) (R : Nat → Envi → Stor → Prop) (B : Envi → Stor → Prop) (h0 : R 0 env st)
    (hs : ∀ j (h : j < l.length), ∀ env st, R j env st → ∃ env1, tg (mk l[j]) env = some env1 ∧ ∃ env2 st2, (body env1 st = .nx env2 st2 ∧ R (j + 1) env2 st2) ∨ (body env1 st = .bk env2 st2 ∧ B env2 st2)) : ∃ env' st', z = .nx env' st' ∧ (R l.length env' st' ∨ B env' st') := by
  subst hl hz
  have key : ∀ (l : List β) (i : Nat) (env : Envi) (st : Stor), R i env st →
      (∀ j (h : j < l.length), ∀ env st, R (i + j) env st → ∃ env1, tg (mk l[j]) env = some env1 ∧ ∃ env2 st2, (body env1 st = .nx env2 st2 ∧ R (i + j + 1) env2 st2) ∨ (body env1 st = .bk env2 st2 ∧ B env2 st2)) →
      ∃ env' st', forGo tg body (l.map mk) env st = .nx env' st' ∧ (R (i + l.length) env' st' ∨ B env' st') := by
    intro l
    induction l with
    | nil => intro i env st h0 _; exact ⟨env, st, rfl, .inl h0⟩
    | cons x l ih =>
      intro i env st h0 hs
      obtain ⟨env1, e1, env2, st2, h⟩ := hs 0 (by simp) env st h0
      simp only [List.getElem_cons_zero] at e1
      rw [List.map_cons]
      unfold forGo
      rw [e1]
      rcases h with ⟨e2, h2⟩ | ⟨e2, h2⟩
      · dsimp only
        rw [e2]
        obtain ⟨env', st', e3, h3⟩ := ih (i + 1) env2 st2 h2 (fun j hj env st hR => by
          have := hs (j + 1) (by simpa using hj) env st (by rw [show i + (j + 1) = i + 1 + j by omega]; exact hR)
          rw [show i + (j + 1) + 1 = i + 1 + j + 1 by omega] at this
          exact this)
        refine ⟨env', st', e3, ?_⟩
        rw [show i + (x :: l).length = i + 1 + l.length by simp; omega]
        exact h3
      · dsimp only
        rw [e2]
        exact ⟨env2, st2, rfl, .inr h2⟩
  have := key l 0 env st h0 (by simpa using hs)
  simpa using this
/-! ### sorted, min of tuples of ints -/
section
variable {β : Type} {st : Stor}
theorem ltL_ints : ∀ {x y : List Int}, D.ltL (x.map .int) (y.map .int) = decide (x < y)
  | [], [] => by simp [D.ltL]
  | [], y :: ys => by simp [D.ltL]
  | x :: xs, [] => by simp [D.ltL]
  | x :: xs, y :: ys => by
    simp only [List.map_cons, D.ltL, D.eqv, D.lt, ltL_ints, List.cons_lt_cons_iff, decide_eq_true_eq]
    by_cases h : x = y
    · rw [if_pos h]
      have : ¬ x < y := by omega
      simp [h]
    · rw [if_neg h]
      simp [h]
theorem isIT_ints {x : List Int} : isIT (.tup (x.map .int)) = true := by
  simp [isIT, isI]
theorem sortOk_mk {f : β → List Int} {l : List β} : sortOk (l.map fun b => .tup ((f b).map .int)) = true := by
  unfold sortOk
  have : (l.map fun b => D.tup ((f b).map .int)).all isIT = true := by
    rw [List.all_eq_true]
    intro d hd
    obtain ⟨b, _, rfl⟩ := List.mem_map.mp hd
    exact isIT_ints
  rw [this]
  simp
theorem sortOk_ints {l : List Int} : sortOk (l.map .int) = true := by
  unfold sortOk
  have : (l.map D.int).all isI = true := by simp [isI]
  rw [this]
  simp
/-- the order of rows of ints -/
def leI (x y : List Int) : Bool := !decide (y < x)
theorem sortD_mk {f : β → List Int} {l : List β} : sortD (l.map fun b => .tup ((f b).map .int)) = (l.mergeSort fun a b => leI (f a) (f b)).map fun b => .tup ((f b).map .int) := by
  unfold sortD
  rw [srtF_eq (Nat.le_refl _)]
  symm
  refine PySem.W.sort_maps _ fun a _ b _ => ?_
  show leI (f a) (f b) = !D.lt (.tup ((f b).map .int)) (.tup ((f a).map .int))
  simp only [D.lt, ltL_ints, leI]
theorem sortD_ints {l : List Int} : sortD (l.map .int) = (l.mergeSort fun a b => decide (a ≤ b)).map .int := by
  unfold sortD
  rw [srtF_eq (Nat.le_refl _)]
  symm
  refine PySem.W.sort_maps _ fun a _ b _ => ?_
  show decide (a ≤ b) = !D.lt (.int b) (.int a)
  simp only [D.lt]
  by_cases h : a ≤ b
  · simp [h]
  · simp [h]; omega
def minB (f : β → List Int) (b : β) (r : List β) : β := r.foldl (fun a y => if f y < f a then y else a) b
theorem minL_mk {f : β → List Int} : ∀ {r : List β} {b : β}, minL (.tup ((f b).map .int)) (r.map fun b => .tup ((f b).map .int)) = .tup ((f (minB f b r)).map .int)
  | [], b => rfl
  | x :: r, b => by
    have ih := minL_mk (f := f) (r := r) (b := if f x < f b then x else b)
    show minL (if D.lt (.tup ((f x).map .int)) (.tup ((f b).map .int)) then .tup ((f x).map .int) else .tup ((f b).map .int)) (r.map fun b => .tup ((f b).map .int)) = .tup ((f (minB f (if f x < f b then x else b) r)).map .int)
    rw [← ih]
    congr 1
    simp only [D.lt, ltL_ints, decide_eq_true_eq]
    split <;> rfl
theorem minB_spec {f : β → List Int} : ∀ {r : List β} {b : β}, minB f b r ∈ b :: r ∧ ∀ y ∈ b :: r, ¬ f y < f (minB f b r)
  | [], b => ⟨List.mem_cons_self, fun y hy => by
    rw [List.mem_singleton.mp hy]
    exact List.lt_irrefl _⟩
  | x :: r, b => by
    obtain ⟨h1, h2⟩ := minB_spec (f := f) (r := r) (b := if f x < f b then x else b)
    have e : minB f b (x :: r) = minB f (if f x < f b then x else b) r := rfl
    rw [e]
    refine ⟨?_, fun y hy => ?_⟩
    · rcases List.mem_cons.mp h1 with z | z
      · rw [z]
        split
        · simp
        · simp
      · simp [z]
    · have h0 := h2 _ List.mem_cons_self
      rcases List.mem_cons.mp hy with z | hy
      · subst z
        by_cases hx : f x < f y
        · rw [if_pos hx] at h0 ⊢
          intro hlt
          exact h0 (List.lt_trans hx hlt)
        · rw [if_neg hx] at h0 ⊢
          exact h0
      · rcases List.mem_cons.mp hy with z | hy
        · subst z
          by_cases hx : f y < f b
          · rw [if_pos hx] at h0 ⊢
            exact h0
          · rw [if_neg hx] at h0 ⊢
            intro hlt
            have hx' : f b ≤ f y := List.not_lt.mp hx
            exact h0 (List.lt_of_le_of_lt hx' hlt)
        · exact h2 y (List.mem_cons_of_mem _ hy)
theorem intsOf_tup {l : List D} {r : List D} : intsOf (.tup l :: r) = none := rfl
theorem dMin_mk {f : β → List Int} {w : W} {b : β} {r : List β} (h : w.asL st = some ((b :: r).map fun b => .tup ((f b).map .int))) : dMin st [w] = some (.d (.tup ((f (minB f b r)).map .int))) := by
  have h0 : dMin0 st [w] = none := by
    unfold dMin0
    split
    · rename_i e
      cases e
    · rename_i w' e
      cases e
      rw [h]
      rfl
    · rfl
  unfold dMin
  rw [h0]
  show (w.asL st).bind _ = _
  rw [h]
  simp only [Option.bind_some, List.map_cons]
  have ok := sortOk_mk (f := f) (l := b :: r)
  rw [List.map_cons] at ok
  rw [if_pos ok, minL_mk]
end
/-! ### comprehensions with a condition -/
theorem filterMap_if {α β : Type} {p : α → Bool} {f : α → β} : ∀ {l : List α}, (l.filterMap fun x => if p x then some (f x) else none) = (l.filter p).map f
  | [] => rfl
  | x :: l => by
    by_cases h : p x = true
    · rw [List.filterMap_cons_some (b := f x) (by rw [if_pos h]), List.filter_cons_of_pos h, List.map_cons, filterMap_if]
    · rw [List.filterMap_cons_none (by rw [if_neg h]), List.filter_cons_of_neg h, filterMap_if]
/-- as often 1 as it holds -/
def oneL {β : Type} (l : List β) (p : β → Bool) : List D := (l.filter p).map fun _ => .int 1
theorem lcZ_if {β : Type} {L : List D} {f : D → Stor → Res (Option D)} {st : Stor} {z : Res (List D)} (hz : lcGo f L st = z) (mk : β → D) (l : List β) (hl : L = l.map mk) (p : β → Bool) (g : β → D) (h : ∀ x ∈ l, f (mk x) st = .ok (if p x then some (g x) else none) st) : z = .ok ((l.filter p).map g) st := by
  rw [lcZ_pure hz mk l hl _ h, filterMap_if]
theorem lcZ_ones {β : Type} {L : List D} {f : D → Stor → Res (Option D)} {st : Stor} {z : Res (List D)} (hz : lcGo f L st = z) (mk : β → D) (l : List β) (hl : L = l.map mk) (p : β → Bool) (h : ∀ x ∈ l, f (mk x) st = .ok (if p x then some (.int 1) else none) st) : z = .ok (oneL l p) st := lcZ_if hz mk l hl p _ h
theorem okL_one {β : Type} {n : Nat} {l : List β} : D.okL n (l.map fun _ => .int 1) = true := by
  rw [okL_iff]
  intro d hd
  obtain ⟨_, _, rfl⟩ := List.mem_map.mp hd
  simp
theorem eqvL_nilE : ∀ {l : List D}, D.eqvL l [] = l.isEmpty
  | [] => rfl
  | _ :: _ => rfl
theorem oneL_empty {β : Type} {l : List β} {p : β → Bool} : (oneL l p).isEmpty = !l.any p := by
  unfold oneL
  induction l with
  | nil => rfl
  | cons x l ih =>
    cases h : p x
    · rw [List.filter_cons_of_neg (by simp [h]), ih, List.any_cons, h, Bool.false_or]
    · rw [List.filter_cons_of_pos h, List.any_cons, h]
      rfl
@[simp] theorem dEq_one {β : Type} {st : Stor} {l : List β} {p : β → Bool} : dEq st (.n (oneL l p)) (.n []) = some (.d (.bl (!l.any p))) := by
  rw [dEq_nn (by simpa [oneL] using okL_one) (by simp), ← oneL_empty]
  congr 3
  exact eqvL_nilE
@[simp] theorem dNe_one {β : Type} {st : Stor} {l : List β} {p : β → Bool} : dNe st (.n (oneL l p)) (.n []) = some (.d (.bl (l.any p))) := by
  have : dNe st (.n (oneL l p)) (.n []) = some (.d (.bl (!(D.lst (oneL l p)).eqv (.lst [])))) := by
    unfold dNe
    rw [dEqv_of (x := .lst (oneL l p)) (y := .lst []) rfl rfl (by simpa [oneL] using okL_one) (by simp)]
    rfl
  rw [this]
  have e : (D.lst (oneL l p)).eqv (.lst []) = !l.any p := by rw [← oneL_empty]; exact eqvL_nilE
  rw [e, Bool.not_not]
theorem pairsD_zip : ∀ {xs ys : List D}, pairsD xs ys = List.zipWith (fun x y => .tup [x, y]) xs ys
  | [], ys => by simp [pairsD]
  | x :: xs, [] => by simp [pairsD]
  | x :: xs, y :: ys => by simp [pairsD, pairsD_zip]
/-- enumerate -/
theorem enumD {β : Type} {mk : β → D} {l : List β} (d : β) : pairsD (rangeD 0 l.length) (l.map mk) = (List.range l.length).map fun i => .tup [.int (i : Nat), mk (l.getD i d)] := by
  apply List.ext_getElem?
  intro i
  rw [rangeD_0]
  by_cases h : i < l.length
  · simp [pairsD_zip, h]
  · simp [pairsD_zip, h]
@[simp] theorem dSorted_d {l : List D} {st : Stor} : dSorted st [.d (.lst l)] = if sortOk l then some (.n (sortD l)) else none := rfl
@[simp] theorem dSorted_w {l : List D} {st : Stor} : dSorted st [.n l] = if sortOk l then some (.n (sortD l)) else none := rfl
@[simp] theorem dSorted_t {l : List D} {st : Stor} : dSorted st [.d (.tup l)] = if sortOk l then some (.n (sortD l)) else none := rfl
/-! ### max, count of ints -/
theorem intsOf_map : ∀ {ns : List Int}, intsOf (ns.map .int) = some ns
  | [] => rfl
  | n :: ns => by
    rw [List.map_cons, intsOf, intsOf_map]
    rfl
theorem dMax_ints {st : Stor} {w : W} {ns : List Int} {k : Int} (h : w.asL st = some (ns.map .int)) (hk : maxI ns = some k) : dMax st [w] = some (.d (.int k)) := by
  have : dMax st [w] = (w.asL st).bind fun l => (intsOf l).bind fun ns => (maxI ns).map fun k => .d (.int k) := by
    unfold dMax
    split
    · rename_i e
      cases e
    · rename_i e
      cases e
      rfl
    · rename_i h1 h2
      exact absurd rfl (h2 w)
  rw [this, h]
  simp [intsOf_map, hk]
theorem maxI_some {ns : List Int} (h : ns ≠ []) : ∃ k, maxI ns = some k ∧ k ∈ ns ∧ ∀ y ∈ ns, y ≤ k := by
  cases ns with
  | nil => exact absurd rfl h
  | cons n ns =>
    obtain ⟨h1, h2, h3⟩ := foldl_max_ge ns n
    refine ⟨_, rfl, ?_, fun y hy => ?_⟩
    · rcases h3 with e | e
      · rw [e]; exact List.mem_cons_self
      · exact List.mem_cons_of_mem _ e
    · rcases List.mem_cons.mp hy with e | e
      · rw [e]; exact h1
      · exact h2 y e
theorem dCount_ints {st : Stor} {w : W} {ns : List Int} {k : Int} (h : w.asL st = some (ns.map .int)) : dCount st w [.d (.int k)] = some (.d (.int (ns.count k : Nat))) := by
  show (w.asL st).bind _ = _
  rw [h]
  simp [intsOf_map]
/-! ### the last cell of any store -/
@[simp] theorem cellL_end {st : Stor} {l : List D} : cellL (st ++ [.lst l]) st.length = some l := by simp [cellL]
@[simp] theorem asL_end {st : Stor} {l : List D} : W.asL (st ++ [.lst l]) (.r st.length) = some l := by simp [W.asL]
@[simp] theorem items_end {st : Stor} {l : List D} : W.items (st ++ [.lst l]) (.r st.length) = some l := by simp [W.items, W.asL]
/-! ### flat data -/
theorem okL_bls {β : Type} {n : Nat} {l : List β} {f : β → Bool} : D.okL n (l.map fun x => .bl (f x)) = true := by
  rw [okL_iff]
  intro d hd
  obtain ⟨_, _, rfl⟩ := List.mem_map.mp hd
  simp
theorem fitL_bls {β : Type} {l : List β} {f : β → Bool} : D.fitL (l.map fun x => .bl (f x)) = true := by
  rw [fitL_iff]
  intro d hd
  obtain ⟨_, _, rfl⟩ := List.mem_map.mp hd
  simp
def scal : D → Bool
  | .non => true
  | .bl _ => true
  | .int _ => true
  | _ => false
theorem okS {n : Nat} {l : List D} (h : ∀ e ∈ l, scal e = true) : D.okL n l = true := by
  rw [okL_iff]
  intro d hd
  have := h d hd
  cases d <;> first | (simp; done) | (simp [scal] at this)
theorem scal_ints {x : List Int} : ∀ e ∈ x.map D.int, scal e = true := fun e he => by
  obtain ⟨_, _, rfl⟩ := List.mem_map.mp he
  rfl
/-! ### the same data -/
mutual
def D.same : D → D → Bool
  | .non, .non => true
  | .bl a, .bl b => a == b
  | .int a, .int b => a == b
  | .str a, .str b => decide (a = b)
  | .tup a, .tup b => D.sameL a b
  | .lst a, .lst b => D.sameL a b
  | _, _ => false
def D.sameL : List D → List D → Bool
  | [], [] => true
  | x :: xs, y :: ys => D.same x y && D.sameL xs ys
  | _, _ => false
end
mutual
theorem same_eq : ∀ {a b : D}, D.same a b = true → a = b
  | .non, .non, _ => rfl
  | .bl a, .bl b, h => by rw [eq_of_beq (show (a == b) = true from h)]
  | .int a, .int b, h => by rw [eq_of_beq (show (a == b) = true from h)]
  | .str a, .str b, h => by rw [of_decide_eq_true (show decide (a = b) = true from h)]
  | .tup a, .tup b, h => by rw [sameL_eq (show D.sameL a b = true from h)]
  | .lst a, .lst b, h => by rw [sameL_eq (show D.sameL a b = true from h)]
  | .non, .bl _, h | .non, .int _, h | .non, .str _, h | .non, .tup _, h | .non, .lst _, h | .non, .fn _, h | .non, .scr _, h
  | .bl _, .non, h | .bl _, .int _, h | .bl _, .str _, h | .bl _, .tup _, h | .bl _, .lst _, h | .bl _, .fn _, h | .bl _, .scr _, h
  | .int _, .non, h | .int _, .bl _, h | .int _, .str _, h | .int _, .tup _, h | .int _, .lst _, h | .int _, .fn _, h | .int _, .scr _, h
  | .str _, .non, h | .str _, .bl _, h | .str _, .int _, h | .str _, .tup _, h | .str _, .lst _, h | .str _, .fn _, h | .str _, .scr _, h
  | .tup _, .non, h | .tup _, .bl _, h | .tup _, .int _, h | .tup _, .str _, h | .tup _, .lst _, h | .tup _, .fn _, h | .tup _, .scr _, h
  | .lst _, .non, h | .lst _, .bl _, h | .lst _, .int _, h | .lst _, .str _, h | .lst _, .tup _, h | .lst _, .fn _, h | .lst _, .scr _, h
  | .fn _, _, h | .scr _, _, h => by simp [D.same] at h
theorem sameL_eq : ∀ {a b : List D}, D.sameL a b = true → a = b
  | [], [], _ => rfl
  | x :: xs, y :: ys, h => by
    simp only [D.sameL, Bool.and_eq_true] at h
    rw [same_eq h.1, sameL_eq h.2]
  | [], _ :: _, h | _ :: _, [], h => by simp [D.sameL] at h
end
@[simp] theorem set_end {st : Stor} {c c' : Cell} : List.set (st ++ [c]) st.length c' = st ++ [c'] := by simp
/-! ### two cells behind any store -/
section
variable {st tl : Stor} {l l' : List D} {c c' d d' : Cell}
@[simp] theorem cellL_mid : cellL (st ++ .lst l :: tl) st.length = some l := by simp [cellL]
@[simp] theorem asD_mid : W.asD (st ++ .lst l :: tl) (.r st.length) = some (.lst l) := by simp [W.asD]
@[simp] theorem asL_mid : W.asL (st ++ .lst l :: tl) (.r st.length) = some l := by simp [W.asL]
@[simp] theorem set_mid : List.set (st ++ c :: tl) st.length c' = st ++ c' :: tl := by simp
@[simp] theorem cellL_two : cellL (st ++ c :: (tl ++ [.lst l])) (st.length + (tl.length + 1)) = some l := by
  unfold cellL
  rw [List.getElem?_append_right (by omega), show st.length + (tl.length + 1) - st.length = tl.length + 1 by omega]
  simp
@[simp] theorem set_two : List.set (st ++ c :: (tl ++ [d])) (st.length + (tl.length + 1)) d' = st ++ c :: (tl ++ [d']) := by
  rw [List.set_append_right _ _ (by omega), show st.length + (tl.length + 1) - st.length = tl.length + 1 by omega]
  simp
theorem dNotIn_cell {x : D} {st : Stor} {i : Nat} (h : W.asD st (.r i) = some (.lst l)) (h1 : x.okd 64 = true) (h2 : D.okL 63 l = true) : dNotIn st (.d x) (.r i) = some (.d (.bl (!l.any fun z => D.eqv z x))) := by
  unfold dNotIn
  rw [dInB_of rfl (.inr h) h1 h2]
  rfl
end
end DL

namespace DL
open PySem L2
/-- a comprehension that keeps some of its items, by what is drawn meanwhile -/
theorem lcGo_sub {β : Type} {mk g : β → D} {f : D → Stor → Res (Option D)} (I : Stor → Prop) : ∀ {l : List β} {st : Stor}, I st → (∀ x ∈ l, ∀ st, I st → ∃ (b : Bool) (st' : Stor), f (mk x) st = .ok (if b then some (g x) else none) st' ∧ I st') →
    ∃ (l' : List β) (st' : Stor), lcGo f (l.map mk) st = .ok (l'.map g) st' ∧ l'.Sublist l ∧ I st'
  | [], st, h0, _ => ⟨[], st, rfl, List.Sublist.refl _, h0⟩
  | x :: l, st, h0, h => by
    obtain ⟨b, st1, e1, i1⟩ := h x (by simp) st h0
    obtain ⟨l', st2, e2, s2, i2⟩ := lcGo_sub I i1 (fun y hy => h y (List.mem_cons_of_mem _ hy))
    cases b
    · refine ⟨l', st2, ?_, s2.cons _, i2⟩
      simp [lcGo, e1, e2]
    · refine ⟨x :: l', st2, ?_, s2.cons_cons _, i2⟩
      simp [lcGo, e1, e2]
theorem lcZ_sub {β : Type} {L : List D} {f : D → Stor → Res (Option D)} {st : Stor} {z : Res (List D)} (hz : lcGo f L st = z) (mk g : β → D) (l : List β) (hl : L = l.map mk) (I : Stor → Prop) (h0 : I st) (h : ∀ x ∈ l, ∀ st, I st → ∃ (b : Bool) (st' : Stor), f (mk x) st = .ok (if b then some (g x) else none) st' ∧ I st') :
    ∃ (l' : List β) (st' : Stor), z = .ok (l'.map g) st' ∧ l'.Sublist l ∧ I st' := by
  subst hl hz
  exact lcGo_sub I h0 h
end DL

/-! DL: sorted(set(t)) of a tuple of ints. -/
namespace DL
open PySem PySem.Spec PyProof.Rows L2
/-- the unlike ints, ascending -/
def insU (x : Int) : List Int → List Int
  | [] => [x]
  | y :: l => if x < y then x :: y :: l else if x = y then y :: l else y :: insU x l
def usrt (l : List Int) : List Int := l.foldr insU []
theorem mem_insU {x z : Int} : ∀ {l : List Int}, z ∈ insU x l ↔ z = x ∨ z ∈ l
  | [] => by simp [insU]
  | y :: l => by
    unfold insU
    split
    · simp
    · split
      · rename_i e
        subst e
        simp
      · rw [List.mem_cons, mem_insU, List.mem_cons]
        constructor
        · rintro (h | h | h)
          · exact .inr (.inl h)
          · exact .inl h
          · exact .inr (.inr h)
        · rintro (h | h | h)
          · exact .inr (.inl h)
          · exact .inl h
          · exact .inr (.inr h)
theorem insU_asc {x : Int} : ∀ {l : List Int}, l.Pairwise (· < ·) → (insU x l).Pairwise (· < ·)
  | [], _ => by simp [insU]
  | y :: l, h => by
    unfold insU
    rw [List.pairwise_cons] at h
    split
    · rename_i hx
      refine List.Pairwise.cons (fun z hz => ?_) (List.Pairwise.cons h.1 h.2)
      rcases List.mem_cons.mp hz with e | hz
      · omega
      · have := h.1 z hz
        omega
    · split
      · exact List.Pairwise.cons h.1 h.2
      · refine List.Pairwise.cons (fun z hz => ?_) (insU_asc h.2)
        rcases mem_insU.mp hz with e | hz
        · omega
        · exact h.1 z hz
theorem mem_usrt {z : Int} : ∀ {l : List Int}, z ∈ usrt l ↔ z ∈ l
  | [] => by simp [usrt]
  | x :: l => by
    show z ∈ insU x (usrt l) ↔ _
    rw [mem_insU, mem_usrt, List.mem_cons]
theorem usrt_asc : ∀ {l : List Int}, (usrt l).Pairwise (· < ·)
  | [] => by simp [usrt]
  | x :: l => insU_asc usrt_asc
theorem asc_ext : ∀ {l r : List Int}, l.Pairwise (· < ·) → r.Pairwise (· < ·) → (∀ z, z ∈ l ↔ z ∈ r) → l = r
  | [], [], _, _, _ => rfl
  | [], y :: r, _, _, h => absurd ((h y).mpr (by simp)) (by simp)
  | x :: l, [], _, _, h => absurd ((h x).mp (by simp)) (by simp)
  | x :: l, y :: r, h1, h2, h => by
    rw [List.pairwise_cons] at h1 h2
    have e : x = y := by
      have a := (h x).mp (by simp)
      have b := (h y).mpr (by simp)
      rcases List.mem_cons.mp a with e | a
      · exact e
      · rcases List.mem_cons.mp b with e | b
        · exact e.symm
        · have := h2.1 x a
          have := h1.1 y b
          omega
    subst e
    refine congrArg (x :: ·) (asc_ext h1.2 h2.2 fun z => ?_)
    constructor
    · intro hz
      have h3 := h1.1 z hz
      rcases List.mem_cons.mp ((h z).mp (List.mem_cons_of_mem _ hz)) with e | h4
      · omega
      · exact h4
    · intro hz
      have h3 := h2.1 z hz
      rcases List.mem_cons.mp ((h z).mpr (List.mem_cons_of_mem _ hz)) with e | h4
      · omega
      · exact h4
theorem insU_len {x : Int} : ∀ {l : List Int}, (insU x l).length ≤ l.length + 1
  | [] => by simp [insU]
  | y :: l => by
    unfold insU
    split
    · simp
    · split
      · simp
      · simpa using insU_len
theorem usrt_len : ∀ {l : List Int}, (usrt l).length ≤ l.length
  | [] => by simp [usrt]
  | x :: l => Nat.le_trans insU_len (Nat.succ_le_succ usrt_len)
section
variable {X : Cx}
/-- set(t), t a tuple of ints -/
def rSetI (K : PySem.W.Frag) (w : World) : List V → Hp → VK → Prop := fun xs H Q => ∃ (l : Addr) (ns : List Int), xs = [V.ref l] ∧ SqT K H l (ns.map V.int) ∧ ns.length ≤ 1000 ∧
  ∀ a c, H a = none → c ≤ ns.length → Q (.ref a) (upd H a (SetO w a (fun j => decide (j ∈ ns)) c))
theorem cr_setI (hc : X.calm = true) : CallR X (.type "set") (rSetI X.K X.w) := by
  intro pins s σ H xs us Q I r h
  obtain ⟨l, ns, rfl, hl, hf, q⟩ := h
  rw [Vals.ref1 r]
  obtain ⟨its, rv, pt, hz⟩ := I.tuple hl
  have hn : H s.heap.objs.size = none := I.hok.fresh (Nat.le_refl _)
  have hi : IntsAre its.toArray.toList ns := ints_of_vals rv
  refine call_set_tupI ns (I.ok.hd hc) (show s.heap.IsTuple l its.toArray from pt) hi (by unfold scanBound; omega) fun h' tk c R1 hcn k => ?_
  exact ⟨.ref s.heap.objs.size, upd H s.heap.objs.size (SetO X.w s.heap.objs.size (fun j => decide (j ∈ ns)) c), I.laid (t' := tk) k (Nat.le_refl _) (setO_new R1), rfl, q _ c hn hcn⟩
def W.tupI : W → Option (List Int)
  | .d (.tup l) => intsOf l
  | _ => none
variable {c : Cf} {Wx : WX} {a : Expr} {fa : Den} {p p2 q pos : Pos}
@[simp] def eSrtSet (f : Den) : Den := fun env st => (f env st).bind fun w st => match w.tupI with
  | some ns => if decide (ns.length < 64) then .ok (.n ((usrt ns).map .int)) st else .no
  | none => .no
theorem intsOf_eq : ∀ {l : List D} {ns : List Int}, intsOf l = some ns → l = ns.map .int
  | [], ns, h => by cases h; rfl
  | d :: l, ns, h => by
    cases d with
    | int i =>
      simp only [intsOf, Option.map_eq_some_iff] at h
      obtain ⟨r, h1, rfl⟩ := h
      rw [intsOf_eq h1]
      rfl
    | _ => simp [intsOf] at h
theorem re_srtset (ha : RE c X Wx a fa) (hg : Gl X "sorted" := by rfl) (hg2 : Gl X "set" := by rfl) (he : starEach [Expr.Call (.Name "set" p2) [a] [] q] X.env = (false, eval (Expr.Call (.Name "set" p2) [a] [] q) X.env) :: starEach [] X.env := by rfl)
    (na : starEach [a] X.env = (false, eval a X.env) :: starEach [] X.env := by rfl) (hc : X.calm = true := by rfl) : RE c X Wx (.Call (.Name "sorted" p) [.Call (.Name "set" p2) [a] [] q] [] pos) (eSrtSet fa) := ⟨fun am tk => by
  obtain ⟨t, pa, va⟩ := ha.ex am tk
  refine ⟨_, pe_callB (cr_sortedSet hc) hg (am.blt "sorted" (by decide)) (by decide +kernel) (pa_cons (pe_callTy (cr_setI hc) hg2 (am.blt "set" (by decide)) (by decide +kernel) (pa_cons pa pa_nil na) (he := na)) pa_nil he) (he := he), fun σ H env m st Q E w h => ?_⟩
  refine va σ H env m st _ E w (Post.bind (RA := RW_ c.g m) back_w h fun w1 st1 _ x H1 s1 r1 h => ?_)
  unfold W.tupI at h
  split at h
  rotate_left
  · exact h.elim
  rename_i ns hns
  split at hns
  rotate_left
  · cases hns
  rename_i l
  split at h
  rotate_left
  · exact h.elim
  rename_i h64
  have h64 := of_decide_eq_true h64
  rw [intsOf_eq hns] at r1
  obtain ⟨pp, xs, rfl, hs, hr⟩ := r1.w0.asT rfl
  rw [hr.ints] at hs
  refine ⟨pp, ns, rfl, am.K ▸ hs, by omega, fun a1 c1 hn1 hc1 => ?_⟩
  have w1' := step_new (o := SetO X.w a1 (fun j => decide (j ∈ ns)) c1) s1.wd hn1
  refine ⟨a1, _, c1, rfl, upd_same, by omega, fun ns' p' hp hm hl hn2 => ?_⟩
  have e : ns' = usrt ns := asc_ext hp usrt_asc fun z => by rw [hm, decide_eq_true_eq, mem_usrt]
  subst e
  have w2' := step_new (o := .lst ((usrt ns).map V.int)) w1'.wd hn2
  exact h.okS (w1'.trans w2') (back_w _ _ _ _ _ _ (fun x hx => w1'.ext.none hx) (rel_newL w1'.wd hn2 RelL.of_ints))⟩
end
end DL

/-! DL: a[i], a[j] = x, y. -/
namespace DL
open PySem PySem.Spec PyProof.Rows L2
def stX : List (Nat × Den) → List D → DenS
  | [], [], env, st => .nx env st
  | (i, f) :: r, d :: ds, env, st => match envR env i with
    | none => .no
    | some j => (f env st).then env fun wi st => match wi.asI with
      | some k => match cellL st j with
        | none => .no
        | some l => match ixN l.length k with
          | some q => stX r ds env (st.set j (.lst (l.set q d)))
          | none => .no
      | none => .no
  | _, _, _, _ => .no
@[simp] theorem stX_nil {env : Envi} {st : Stor} : stX [] [] env st = .nx env st := rfl
@[simp] theorem stX_cons {i : Nat} {f : Den} {r : List (Nat × Den)} {d : D} {ds : List D} {env : Envi} {st : Stor} : stX ((i, f) :: r) (d :: ds) env st = match envR env i with
    | none => .no
    | some j => (f env st).then env fun wi st => match wi.asI with
      | some k => match cellL st j with
        | none => .no
        | some l => match ixN l.length k with
          | some q => stX r ds env (st.set j (.lst (l.set q d)))
          | none => .no
      | none => .no := rfl
@[simp] def sSubX (f : DenL) (l : List (Nat × Den)) : DenS := fun env st => (f env st).then env fun ds st => if decide (ds.length = l.length) then stX l ds env st else .no
section
variable {c : Cf} {X : Cx} {Wx : WX}
structure RGx (c : Cf) (X : Cx) (Wx : WX) (es : List Expr) (l : List (Nat × Den)) : Prop where
  ex : AmbS c X Wx → ∃ t, PGs X es t ∧ ∀ vs ds σ H env m st D, EnvR c.g m st H σ env → Wd c.g m st H → RelL c.g m st H vs ds → PostS c.g m Wx st H (stX l ds env st) D → t vs σ H D.nx
theorem rgx_nil : RGx c X Wx [] [] := ⟨fun am => ⟨_, pgs_nil, fun vs ds σ H env m st D E w r h => by
  cases r with
  | nil => exact ⟨rfl, h σ m H (.refl w) E⟩
  | cons _ _ => exact h.elim⟩⟩
theorem rgx_cons {i : Nat} {x : Str} {p1 p2 : Pos} {ei : Expr} {fi : Den} {es : List Expr} {r : List (Nat × Den)} (hi : RE c X Wx ei fi) (hr : RGx c X Wx es r) (hN : X.N[i]? = some x := by rfl) (hv : Vis X.env.scope x := by first | exact Or.inl rfl | exact Or.inr (Or.inl rfl) | exact Or.inr (Or.inr rfl)) (hd : (x == ("__debug__" : Str)) = false := by decide)
    (hcd : (x == ("__classdict__" : Str)) = false := by decide)
    (hs : (assignEach (.Subscript (.Name x p1) ei p2 :: es) X.env).map (·.2) = assign (.Subscript (.Name x p1) ei p2) X.env :: (assignEach es X.env).map (·.2) := by rfl)
    (hsub : ∀ v, assign (.Subscript (.Name x p1) ei p2) X.env v = (do
      let ov ← holding [v] (eval (.Name x p1) X.env)
      let iv ← holding [v, ov] (eval ei X.env)
      standAt p2
      holding [v, ov, iv] (setItem ov iv v)
      release [v, ov, iv] []) := by intro _; rfl) : RGx c X Wx (.Subscript (.Name x p1) ei p2 :: es) ((i, fi) :: r) := ⟨fun am => by
  obtain ⟨t2, p2, v2⟩ := hi.ex am.am am.tk
  obtain ⟨t3, p3, v3⟩ := hr.ex am
  refine ⟨_, pgs_cons (pg_sub (pe_var hN hv hd hcd) p2 set_list hsub) p3 hs, fun vs ds σ H env m st D E w rr h => ?_⟩
  match vs, ds, rr, h with
  | [], [], .nil, h => exact h.elim
  | v :: vs, d :: ds, .cons r1 r2, h =>
    rw [stX_cons] at h
    refine ⟨v, vs, rfl, ?_⟩
    cases z : envR env i with
    | none => rw [z] at h; exact h.elim
    | some j =>
      rw [z] at h
      dsimp only at h
      obtain ⟨v', e1, a, rfl, ha⟩ := E.at_ i _ (envR_some z)
      refine ⟨.ref a, e1, v2 σ H env m st _ E w (h.bind (RA := RW_ c.g m) E fun w2 st2 y2 H2 _ s2 rr2 h => ?_)⟩
      cases z3 : w2.asI with
      | none => rw [z3] at h; exact h.elim
      | some k =>
        rw [z3] at h
        dsimp only at h
        cases z2 : cellL st2 j with
        | none => rw [z2] at h; exact h.elim
        | some l =>
          rw [z2] at h
          dsimp only at h
          cases z4 : ixN l.length k with
          | none => rw [z4] at h; exact h.elim
          | some q =>
            rw [z4] at h
            obtain ⟨us, k1, k2⟩ := s2.wd.cells j a _ ha (cellL_some z2)
            have sc := step_cell s2.wd ha (cellL_some z2) k1 (k2.set (r1.ext s2.ext) q)
            exact ⟨a, us, k, q, rfl, rr2.w0.asI z3, k1, by rw [k2.length]; exact z4, v3 vs ds σ _ env m _ D ((E.ext s2.ext s2.pre).ext sc.ext sc.pre) sc.wd ((r2.ext s2.ext).ext sc.ext) (h.moved sc)⟩⟩
theorem rs_subX {es tgs : List Expr} {f : DenL} {l : List (Nat × Den)} {kt k2 : Nat} {pt pt2 pos : Pos} (ha : RA c X Wx es f) (hg : RGx c X Wx tgs l) (hlen : decide (l.length ≤ 100) = true := by rfl)
    (hn : (assignEach tgs X.env).length = l.length := by rfl) (hst : (assignEach tgs X.env).findIdx? (·.1) = none := by rfl) (hc : X.calm = true := by rfl)
    (hs : swapsWithSole [.Tuple tgs kt pt] (.Tuple es k2 pt2) pos.line X.env = pure false := by rfl) (hw : swappedStores [.Tuple tgs kt pt] (.Tuple es k2 pt2) X.env = pure none := by rfl)
    (h1 : (assignEach [.Tuple tgs kt pt] X.env).map (·.2) = [assign (.Tuple tgs kt pt) X.env] := by rfl) : RS c X Wx (.Assign [.Tuple tgs kt pt] (.Tuple es k2 pt2) pos) (sSubX f l) := ⟨fun am => by
  obtain ⟨t1, p1, v1⟩ := ha.ex am.am am.tk
  obtain ⟨t2, p2, v2⟩ := hg.ex am
  refine ⟨_, ps_asg (pe_tup p1) (pg_tup hc p2 hn hst) hs hw h1, fun σ H env m st D E w h => ?_⟩
  unfold sSubX at h
  refine v1 σ H env m st _ E w (h.bind (RA := fun st _ H v a => RelL c.g m st H v a) E fun ds st1 vs H1 _ s1 r1 h => ?_)
  split at h
  rotate_left
  · exact h.elim
  rename_i hl
  have hl := of_decide_eq_true hl
  have hb := of_decide_eq_true hlen
  refine ⟨by rw [r1.length, hl, sizeLine_eq]; omega, fun p hp => ?_⟩
  have sn := step_new (o := .tup vs) s1.wd hp
  exact ⟨p, vs, rfl, .inl (.inl upd_same), r1.length.trans hl, v2 vs ds σ _ env m st1 D ((E.ext s1.ext s1.pre).ext sn.ext sn.pre) sn.wd (r1.ext sn.ext) (h.moved sn)⟩⟩
end
end DL

namespace DL
open PySem L2
/-- a while loop: what holds at each turn, with a number that falls -/
theorem whileZ {t : DenB} {body : DenS} {R : Nat → Envi → Stor → Prop} : ∀ {fuel n : Nat} {env : Envi} {st : Stor} {z : Out}, whileGo t body fuel env st = z → R n env st → n < fuel →
    (∀ n env st, R n env st → t env st = .ok false st ∨ (t env st = .ok true st ∧ ∃ n' env2 st2, n' < n ∧ body env st = .nx env2 st2 ∧ R n' env2 st2)) → ∃ n' env' st', z = .nx env' st' ∧ R n' env' st' ∧ t env' st' = .ok false st'
  | 0, n, _, _, _, _, _, hf, _ => by omega
  | fuel + 1, n, env, st, z, hz, h0, hf, hs => by
    rcases hs n env st h0 with h | ⟨h, n', env2, st2, hn, hb, h2⟩
    · rw [whileGo_stop h] at hz
      exact ⟨n, env, st, hz.symm, h0, h⟩
    · rw [whileGo_go h hb] at hz
      exact whileZ hz h2 (by omega) hs
@[simp] theorem dAny_map {β : Type} {f : β → Bool} {l : List β} {st : Stor} : dAny st [.n (l.map fun x => D.bl (f x))] = some (.d (.bl (l.any f))) := by
  have h1 : blsOf (l.map fun x => D.bl (f x)) = some (l.map f) := by
    induction l with
    | nil => rfl
    | cons x l ih => simp [blsOf, ih]
  simp [dAny, h1]
/-! ### sorted rows of lists of ints -/
theorem alkL_ints : ∀ {x y : List Int}, D.alkL (x.map .int) (y.map .int) = true
  | [], _ => by simp [D.alkL]
  | _ :: _, [] => by simp [D.alkL]
  | x :: xs, y :: ys => by
    simp only [List.map_cons, D.alkL, D.alk, alkL_ints, Bool.and_true]
theorem sortOk_lsts {β : Type} {f : β → List Int} {l : List β} : sortOk (l.map fun b => .lst ((f b).map .int)) = true := by
  unfold sortOk
  have h3 : ((l.map fun b => D.lst ((f b).map .int)).all fun d => d.okd 50) = true := by
    rw [List.all_eq_true]
    intro d hd
    obtain ⟨b, _, rfl⟩ := List.mem_map.mp hd
    simp
  have h4 : ((l.map fun b => D.lst ((f b).map .int)).all fun d => (l.map fun b => D.lst ((f b).map .int)).all fun e => D.alk d e) = true := by
    rw [List.all_eq_true]
    intro d hd
    obtain ⟨b, _, rfl⟩ := List.mem_map.mp hd
    rw [List.all_eq_true]
    intro e he
    obtain ⟨c, _, rfl⟩ := List.mem_map.mp he
    simp only [D.alk]
    exact alkL_ints
  have h5 : ((l.map fun b => D.lst ((f b).map .int)).all notTn) = true := by
    rw [List.all_eq_true]
    intro d hd
    obtain ⟨b, _, rfl⟩ := List.mem_map.mp hd
    rfl
  rw [h3, h4, h5]
  simp
theorem sortD_lsts {β : Type} {f : β → List Int} {l : List β} : sortD (l.map fun b => .lst ((f b).map .int)) = (l.mergeSort fun a b => !decide (f b < f a)).map fun b => .lst ((f b).map .int) := by
  unfold sortD
  rw [srtF_eq (Nat.le_refl _)]
  symm
  refine PySem.W.sort_maps _ fun a _ b _ => ?_
  show (!decide (f b < f a)) = !D.lt (.lst ((f b).map .int)) (.lst ((f a).map .int))
  simp only [D.lt, ltL_ints]
end DL
namespace DL
open PySem L2
theorem any_eqv_int {a : Int} : ∀ {l : List Int}, ((l.map D.int).any fun z => D.eqv z (.int a)) = decide (a ∈ l)
  | [] => rfl
  | x :: l => by
    rw [List.map_cons, List.any_cons, any_eqv_int, eqv_ii]
    by_cases h : x = a
    · simp [h]
    · have : ¬ a = x := fun e => h e.symm
      simp [h, this]
section
variable {st : Stor} {a : Int} {l : List Int}
@[simp high] theorem dIn_li : dIn st (.d (.int a)) (.d (.lst (l.map .int))) = some (.d (.bl (decide (a ∈ l)))) := by rw [dIn_dl (by simp) (by simp), any_eqv_int]
@[simp high] theorem dIn_ti : dIn st (.d (.int a)) (.d (.tup (l.map .int))) = some (.d (.bl (decide (a ∈ l)))) := by rw [dIn_dt (by simp) (by simp), any_eqv_int]
@[simp high] theorem dNotIn_li : dNotIn st (.d (.int a)) (.d (.lst (l.map .int))) = some (.d (.bl (!decide (a ∈ l)))) := by rw [dNotIn_dl (by simp) (by simp), any_eqv_int]
@[simp high] theorem dNotIn_ti : dNotIn st (.d (.int a)) (.d (.tup (l.map .int))) = some (.d (.bl (!decide (a ∈ l)))) := by rw [dNotIn_dt (by simp) (by simp), any_eqv_int]
end
end DL
namespace DL
open PySem L2
@[simp] theorem dLen_end {st : Stor} {l : List D} : dLen (st ++ [.lst l]) [.r st.length] = some (.d (.int l.length)) := by
  show ((W.r st.length).items (st ++ [.lst l])).map _ = _
  rw [items_end]
  rfl
end DL
namespace DL
open PySem L2
theorem pairsD_maps {α β : Type} {f : α → D} {h : β → D} : ∀ {x : List α} {y : List β}, pairsD (x.map f) (y.map h) = (x.zip y).map fun p => .tup [f p.1, h p.2]
  | [], _ => by simp [pairsD]
  | _ :: _, [] => by simp [pairsD]
  | a :: x, b :: y => by
    rw [List.map_cons, List.map_cons, pairsD, pairsD_maps, List.zip_cons_cons, List.map_cons]
theorem zip_drop {l : List Int} (h : l.Pairwise (· < ·)) : ∀ p ∈ l.zip (l.drop 1), p.1 < p.2 := by
  intro p hp
  obtain ⟨i, hi, rfl⟩ := List.getElem_of_mem hp
  rw [List.getElem_zip, List.getElem_drop]
  simp at hi
  exact List.pairwise_iff_getElem.mp h i (1 + i) (by omega) (by omega) (by omega)
end DL

/-! DL: range(i, j, -1) walked. -/
namespace DL
open PySem PySem.Spec PyProof.Rows L2
def downD (lo : Int) (n : Nat) : List D := (List.range n).map fun (i : Nat) => .int (lo - (i : Int))
theorem itok_down {g : G} {m : Mm} {st : Stor} {H : Hp} {lo : Int} {n : Nat} : ItOk g m st H (Itc lo (-1) n) (downD lo n) := fun m' st' H' s i => by
  have hl : (downD lo n).length = n := by unfold downD; simp
  refine ⟨fun d e => ?_, fun hi => by rw [hl] at hi; exact hi⟩
  unfold downD at e
  rw [List.getElem?_map] at e
  cases z : (List.range n)[i]? with
  | none => rw [z] at e; cases e
  | some j =>
    rw [z] at e
    obtain ⟨hi, ej⟩ := List.getElem?_eq_some_iff.mp z
    rw [List.getElem_range] at ej
    subst ej
    cases e
    refine ⟨show i < n by simpa using hi, fun x H'' y => ?_⟩
    obtain ⟨rfl, rfl⟩ := y
    have e2 : lo + (i : Int) * (-1) = lo - (i : Int) := by omega
    rw [e2]
    exact ⟨.refl s.wd, .int _⟩
def rng3 (n k c : Int) (st : Stor) : Res (List D) := if decide (n.natAbs < 4611686018427387904) && (decide (k.natAbs < 4611686018427387904) && decide (c = -1)) then .ok (downD n (n - k).toNat) st else .no
@[simp] def i3 (f f' f'' : Den) : DenL := fun env st => (f env st).bind fun w st => (f' env st).bind fun w' st => (f'' env st).bind fun w'' st => (Res.ofO w.asI st).bind fun n st => (Res.ofO w'.asI st).bind fun k st => (Res.ofO w''.asI st).bind fun c st => rng3 n k c st
theorem rng3_down {n k : Int} {st : Stor} (h1 : n.natAbs < 4611686018427387904) (h2 : k.natAbs < 4611686018427387904) : rng3 n k (-1) st = .ok (downD n (n - k).toNat) st := by
  unfold rng3
  rw [decide_eq_true h1, decide_eq_true h2]
  rfl
section
variable {c : Cf} {X : Cx} {Wx : WX} {a b e3 tg : Expr} {fa fb f3 : Den} {p pos : Pos}
theorem ri_range3 (ha : RE c X Wx a fa) (hb : RE c X Wx b fb) (h3 : RE c X Wx e3 f3) (hg : Gl X "range" := by rfl) (hs : starEach [a, b, e3] X.env = (false, eval a X.env) :: starEach [b, e3] X.env := by rfl) (hs2 : starEach [b, e3] X.env = (false, eval b X.env) :: starEach [e3] X.env := by rfl) (hs3 : starEach [e3] X.env = (false, eval e3 X.env) :: starEach [] X.env := by rfl)
    (hpl : (backTo pos (starEach [b, e3] X.env)).any (·.1) = false := by rfl) : RI c X Wx tg (.Call (.Name "range" p) [a, b, e3] [] pos) (i3 fa fb f3) := ⟨fun am tk => by
  obtain ⟨t, pa, va⟩ := ha.ex am tk
  obtain ⟨t2, pb, vb⟩ := hb.ex am tk
  obtain ⟨t3, pc, vc⟩ := h3.ex am tk
  refine ⟨_, pi_range3 hg (am.blt "range" (by decide)) (pa_cons pa (pa_cons pb (pa_cons pc pa_nil hs3) hs2) hs) hs hpl, fun σ H env m st R E w h => va σ H env m st _ E w (Post.bind (RA := RW_ c.g m) back_i h fun w1 st1 _ v H1 s1 r1 h => ?_)⟩
  refine vb σ H1 env m st1 _ (E.ext s1.ext s1.pre) s1.wd (Post.bind (RA := RW_ c.g m) back_i h fun w2 st2 _ v2 H2 s2 r2 h => ?_)
  have s12 := s1.trans s2
  refine vc σ H2 env m st2 _ (E.ext s12.ext s12.pre) s2.wd (Post.bind (RA := RW_ c.g m) back_i h fun w3 st3 _ v3 H3 s3 r3 h => ?_)
  cases z : w1.asI with
  | none => rw [z] at h; exact h.elim
  | some n =>
    cases z' : w2.asI with
    | none => rw [z, z'] at h; exact h.elim
    | some k =>
      cases z'' : w3.asI with
      | none => rw [z, z', z''] at h; exact h.elim
      | some q =>
        rw [z, z', z''] at h
        have e := r1.w0.asI z
        subst e
        have e := r2.w0.asI z'
        subst e
        have e := r3.w0.asI z''
        subst e
        have hh : Post c.g m σ Wx st3 H3 (RI_ c.g m) (if (decide (n.natAbs < 4611686018427387904) && (decide (k.natAbs < 4611686018427387904) && decide (q = -1))) = true then .ok (downD n (n - k).toNat) st3 else .no) R := h
        by_cases z2 : (decide (n.natAbs < 4611686018427387904) && (decide (k.natAbs < 4611686018427387904) && decide (q = -1))) = true
        · rw [if_pos z2] at hh
          rw [Bool.and_eq_true, Bool.and_eq_true, decide_eq_true_eq, decide_eq_true_eq, decide_eq_true_eq] at z2
          obtain ⟨h1, h2, rfl⟩ := z2
          exact ⟨n, k, -1, _, rfl, RgC.neg (by omega) (by omega) (by omega) (by omega), hh.ok s3.wd itok_down⟩
        · rw [if_neg z2] at hh
          exact hh.elim⟩
end
end DL

/-! DL: a dict of one pair, its key a tuple. -/
namespace DL
open PySem PySem.Spec PyProof.Rows L2
def tDisp1 (tk tv : TE) : TE := fun σ H Q => ∀ p, H p = none → tk σ (upd H p (.dT [])) fun y H1 => tv σ H1 fun v H2 => H2 p = some (.dT []) ∧ ∃ (k : List Key) (b : Addr), y = .ref b ∧ H2 b = some (.tup (k.map kV)) ∧ Q (.ref p) (upd H2 p (.dT [(k, v)]))
section
variable {X : Cx} {ke ve : Expr} {tk tv : TE} {pos : Pos}
theorem pe_disp1 (hu : X.A.units + 1 < cLine) (hk : PE X ke tk) (hv : PE X ve tv) : PE X (.Dict [some ke] [ve] pos) (tDisp1 tk tv) := by
  refine ⟨fun pins s σ H Q I q => ?_⟩
  have new := I.hok.fresh (Nat.le_refl s.heap.objs.size)
  have I1 := I.laid (a := s.heap.objs.size) (o := .dT []) (h' := s.heap.push { cls := .type "dict", data := .dict #[] }) (t' := s.toks) (fun _ _ e => Heap.get?_push_of_some _ e) (Nat.le_refl _) (dt_empty s.heap I.big)
  rw [arm_eval_Dict, zip_pairTrees [some ke] [ve] X.env pos rfl rfl, dictDisplay_pairs _ (by simp [pairTrees]) (by simp [pairTrees])]
  refine wpAny_bind (wpAny_standAt (wpAny_bind (wpAny_subDictH (knd := tupleKind (mixKind X.prog X.w)) (Q := fun d s' => wpAny (model X.prog X.w) X.A (pure (Value.ref d)) (EP X pins σ Q) X.xe s') ?hu (by simp [pairTrees]) ?_)))
  case hu => exact (show X.A.units < cLine by omega)
  refine pairTrees_cons_walk (thn (hk.run pins _ σ _ _ I1 (q _ new)) fun kv s1 ⟨y, H1, I2, ry, q1⟩ => thn (hv.run pins s1 σ H1 _ I2 q1) fun vv s2 ⟨v, H2, I3, rv, q2⟩ => pairTrees_nil_walk ?_)
  obtain ⟨hp, k, b, rfl, hb, q2⟩ := q2
  cases ry
  have key := key_of I3.hok hb
  obtain ⟨z, hd, vs0, r0, dd⟩ := dt_of I3.hok hp
  cases r0
  refine ⟨[(k, b, vv)], ⟨rfl, rfl, key, trivial⟩, dd, fun h' tk dd' hs => wpAny_pure ⟨.ref s.heap.objs.size, _, ?_, rfl, q2⟩⟩
  obtain ⟨o, es, ep, ho, x2, x3, x4, x5, x6⟩ := dd'
  refine d_write I3 (by rw [hp]; exact True.intro) hs ⟨o, ho⟩ ⟨by rw [sizeLine_eq]; simp, hd, _, .cons ⟨rfl, ?_, rv⟩ .nil, o, es, ep, ho, x2, x3, x4, x6⟩
  have ne : b ≠ s.heap.objs.size := fun e => by rw [e, hp] at hb; cases hb
  exact (upd_ne ne).trans hb
/-! ### k in d, a key that may be one of the written tuples -/
theorem key_sq {pins : List (Addr × Obj)} {σ : L2.St} {H : Hp} {s : Shared} {b : Addr} {ns : List Int} (I : Inv X pins σ H s) (h : SqT X.K H b (ns.map V.int)) : (tupleKind (mixKind X.prog X.w)).is s.heap (ns.map Sum.inl) b := by
  obtain ⟨us, r, ⟨o, ho, hc, n, hd⟩, _⟩ := I.tuple h
  have e : ns.map V.int = (ns.map Sum.inl : List Key).map kV := by rw [List.map_map]; rfl
  rw [e] at r
  exact ⟨o, us.toArray, n, ho, hc, hd, by simpa using items_are r⟩
def rInD (K : PySem.W.Frag) (neg : Bool) : R2 := fun y x H Q => ∃ (a b : Addr) (vs : List (List Key × V)) (ns : List Int), x = .ref a ∧ y = .ref b ∧ H a = some (.dT vs) ∧ SqT K H b (ns.map V.int) ∧ Q (.bl (neg != (valV vs (ns.map Sum.inl)).isSome)) H
theorem op_inDct (hu : X.A.units + 1 < cLine) : OpR X (compareOp .In) (rInD X.K false) := by
  intro pins s σ H y x u v Q I ry rx h
  obtain ⟨a, b, vs, ns, rfl, rfl, ha, hb, q⟩ := h
  cases rx
  cases ry
  obtain ⟨_, hd, xs, rel, dd⟩ := dt_of I.hok ha
  refine wpAny_in_heap (tupleKind_room_in1 hu) (key_sq I hb) hd dd ?_
  have e := (rel.val (ns.map Sum.inl)).isSome_eq
  rw [Option.isSome_map] at e
  rw [← e]
  exact ⟨.bl (valV vs (ns.map Sum.inl)).isSome, H, I.tok _, rfl, by simpa using q⟩
theorem op_notInDct (hu : X.A.units + 1 < cLine) : OpR X (compareOp .NotIn) (rInD X.K true) := by
  intro pins s σ H y x u v Q I ry rx h
  obtain ⟨a, b, vs, ns, rfl, rfl, ha, hb, q⟩ := h
  cases rx
  cases ry
  obtain ⟨_, hd, xs, rel, dd⟩ := dt_of I.hok ha
  refine wpAny_notIn_heap (tupleKind_room_in1 hu) (key_sq I hb) hd dd ?_
  have e := (rel.val (ns.map Sum.inl)).isSome_eq
  rw [Option.isSome_map] at e
  rw [← e]
  exact ⟨.bl (!(valV vs (ns.map Sum.inl)).isSome), H, I.tok _, rfl, by simpa using q⟩
end
end DL

/-! DL: cells that are dicts whose keys are tuples of ints. -/
namespace DL
open PySem PySem.Spec PyProof.Rows L2
abbrev Dc := List (List Int × D)
def valD (l : Dc) (k : List Int) : Option D := match l with
  | [] => none
  | (x, d) :: r => if x = k then some d else valD r k
def repD (l : Dc) (k : List Int) (d : D) : Dc := l.map fun p => if p.1 = k then (k, d) else p
def putD (l : Dc) (k : List Int) (d : D) : Dc := if (valD l k).isSome then repD l k d else l ++ [(k, d)]
def cellT (st : Stor) (i : Nat) : Option Dc := match st[i]? with
  | some (.dct l) => some l
  | _ => none
theorem cellT_some {st : Stor} {j : Nat} {l : Dc} (h : cellT st j = some l) : st[j]? = some (.dct l) := by
  unfold cellT at h
  split at h
  · cases h
    assumption
  · cases h
theorem inl_inj : ∀ {x k : List Int}, (x.map Sum.inl : List Key) = k.map Sum.inl → x = k
  | [], [], _ => rfl
  | [], _ :: _, h => by simp at h
  | _ :: _, [], h => by simp at h
  | a :: x, b :: k, h => by
    simp only [List.map_cons, List.cons.injEq, Sum.inl.injEq] at h
    rw [h.1, inl_inj h.2]
section
variable {g : G} {m : Mm} {st : Stor} {H : Hp}
inductive DctL (g : G) (m : Mm) (st : Stor) (H : Hp) : List (List Key × V) → Dc → Prop
  | nil : DctL g m st H [] []
  | cons {k : List Int} {v : V} {d : D} {vs : List (List Key × V)} {l : Dc} : Rel g m st H v d → DctL g m st H vs l → DctL g m st H ((k.map Sum.inl, v) :: vs) ((k, d) :: l)
theorem DctR.l : ∀ {vs : List (List Key × V)} {l : Dc}, DctR g m st H vs l → DctL g m st H vs l
  | [], [], _ => .nil
  | [], _ :: _, ⟨h, _⟩ => by cases h
  | _ :: _, [], ⟨h, _⟩ => by cases h
  | (k, v) :: vs, (x, d) :: l, ⟨h1, h2⟩ => by
    simp only [List.map_cons, List.cons.injEq] at h1 h2
    obtain ⟨rfl, h1⟩ := h1
    cases h2 with
    | cons r t => exact .cons r (DctR.l ⟨h1, t⟩)
theorem DctL.r : ∀ {vs : List (List Key × V)} {l : Dc}, DctL g m st H vs l → DctR g m st H vs l
  | _, _, .nil => ⟨rfl, .nil⟩
  | _, _, .cons r t => by
    obtain ⟨h1, h2⟩ := t.r
    exact ⟨by simp only [List.map_cons, h1], .cons r h2⟩
theorem DctL.val {k : List Int} : ∀ {vs : List (List Key × V)} {l : Dc}, DctL g m st H vs l → (valV vs (k.map Sum.inl) = none ∧ valD l k = none) ∨ ∃ v d, valV vs (k.map Sum.inl) = some v ∧ valD l k = some d ∧ Rel g m st H v d
  | _, _, .nil => .inl ⟨rfl, rfl⟩
  | _, _, .cons (k := x) (v := v) (d := d) r t => by
    by_cases e : x = k
    · subst e
      exact .inr ⟨v, d, valV_pos rfl, by simp [valD], r⟩
    · rw [valV_neg (fun z => e (inl_inj z))]
      simp only [valD, if_neg e]
      exact t.val
theorem DctL.rep {k : List Int} {v : V} {d : D} (rv : Rel g m st H v d) : ∀ {vs : List (List Key × V)} {l : Dc}, DctL g m st H vs l → DctL g m st H (vs.map fun p => if p.1 = k.map Sum.inl then (p.1, v) else p) (repD l k d)
  | _, _, .nil => .nil
  | _, _, .cons (k := x) r t => by
    have ih := t.rep (k := k) rv
    by_cases e : x = k
    · subst e
      simp only [List.map_cons, repD, if_true]
      exact .cons rv ih
    · simp only [List.map_cons, repD, if_neg e, if_neg (fun z => e (inl_inj z))]
      exact .cons r ih
theorem DctL.snoc {k : List Int} {v : V} {d : D} (rv : Rel g m st H v d) : ∀ {vs : List (List Key × V)} {l : Dc}, DctL g m st H vs l → DctL g m st H (vs ++ [(k.map Sum.inl, v)]) (l ++ [(k, d)])
  | _, _, .nil => .cons rv .nil
  | _, _, .cons r t => .cons r (t.snoc rv)
theorem DctL.put {k : List Int} {v : V} {d : D} (rv : Rel g m st H v d) {vs : List (List Key × V)} {l : Dc} (h : DctL g m st H vs l) : DctL g m st H (putK vs (k.map Sum.inl) v) (putD l k d) := by
  unfold putD
  rcases h.val (k := k) with ⟨h1, h2⟩ | ⟨v', d', h1, h2, _⟩
  · rw [h2, putK_new v h1]
    exact h.snoc rv
  · rw [h2]
    have e : putK vs (k.map Sum.inl) v = vs.map fun p => if p.1 = k.map Sum.inl then (p.1, v) else p := by
      unfold putK
      rw [valV_any, h1]
      rfl
    rw [e]
    exact h.rep rv
theorem DctL.len : ∀ {vs : List (List Key × V)} {l : Dc}, DctL g m st H vs l → vs.length = l.length
  | _, _, .nil => rfl
  | _, _, .cons _ t => by rw [List.length_cons, List.length_cons, t.len]
end
/-! ### k in d -/
def dInC (st : Stor) (w1 w2 : W) : Option W := match w2 with
  | .r i => match cellT st i with
    | some l => w1.tupI.map fun k => .d (.bl (valD l k).isSome)
    | none => dIn st w1 w2
  | _ => dIn st w1 w2
def dNotInC (st : Stor) (w1 w2 : W) : Option W := match w2 with
  | .r i => match cellT st i with
    | some l => w1.tupI.map fun k => .d (.bl (!(valD l k).isSome))
    | none => dNotIn st w1 w2
  | _ => dNotIn st w1 w2
section
variable {st : Stor} {w : W} {x : D} {l : List D} {i : Nat} {c : Dc} {k : List Int}
@[simp] theorem dInC_d : dInC st w (.d x) = dIn st w (.d x) := rfl
@[simp] theorem dInC_n : dInC st w (.n l) = dIn st w (.n l) := rfl
@[simp] theorem dNotInC_d : dNotInC st w (.d x) = dNotIn st w (.d x) := rfl
@[simp] theorem dNotInC_n : dNotInC st w (.n l) = dNotIn st w (.n l) := rfl
theorem tupI_ints : (W.d (.tup (k.map .int))).tupI = some k := intsOf_map
theorem dInC_c (h : cellT st i = some c) : dInC st (.d (.tup (k.map .int))) (.r i) = some (.d (.bl (valD c k).isSome)) := by
  unfold dInC
  simp only [h, tupI_ints, Option.map_some]
theorem dNotInC_c (h : cellT st i = some c) : dNotInC st (.d (.tup (k.map .int))) (.r i) = some (.d (.bl (!(valD c k).isSome))) := by
  unfold dNotInC
  simp only [h, tupI_ints, Option.map_some]
@[simp] theorem cellT_end : cellT (st ++ [.dct c]) st.length = some c := by simp [cellT]
end
section
variable {g : G} {X : Cx}
theorem tupI_rel {m : Mm} {st : Stor} {H : Hp} {v : V} {w : W} {k : List Int} (r : RelW0 g m st H v w) (e : w.tupI = some k) : ∃ b, v = .ref b ∧ SqT g.K H b (k.map V.int) ∧ H b = some (.tup (k.map V.int)) ∧ ¬ Mu m st b := by
  unfold W.tupI at e
  split at e
  · rename_i l
    rw [intsOf_eq e] at r
    obtain ⟨b, xs, rfl, hb, hr⟩ := Rel.tup_inv (show Rel g m st H v (.tup (k.map .int)) from r)
    rw [hr.ints] at hb
    rcases hb with ⟨h1, h2⟩ | ⟨_, x, hx, hn⟩
    · exact ⟨b, rfl, .inl (.inl h1), h1, h2⟩
    · obtain ⟨n, _, rfl⟩ := List.mem_map.mp hx
      exact absurd rfl (hn n)
  · cases e
theorem opd_inC (hK : X.K = g.K) (hu : X.A.units + 1 < cLine) (h : OpD g X (compareOp .In) dIn) : OpD g X (compareOp .In) dInC := by
  obtain ⟨r, h1, h2⟩ := h
  refine ⟨_, opR_or h1 (op_inDct hu), fun m st H x y w1 w2 w Q wd r1 r2 e q => ?_⟩
  have old : dIn st w1 w2 = some w → r x y H Q := fun e => h2 m st H x y w1 w2 w Q wd r1 r2 e q
  unfold dInC at e
  split at e
  · rename_i i
    split at e
    · rename_i l hl
      obtain ⟨k, hk, rfl⟩ := Option.map_eq_some_iff.mp e
      obtain ⟨a, rfl, ha⟩ := r2
      obtain ⟨vs, hH, hv⟩ := wd.cells i a _ ha (cellT_some hl)
      obtain ⟨b, rfl, hb, _⟩ := tupI_rel r1 hk
      refine .inr ⟨a, b, vs, k, rfl, rfl, hH, hK ▸ hb, q _ _ (.refl wd) ?_⟩
      rcases hv.l.val (k := k) with ⟨e1, e2⟩ | ⟨v, d, e1, e2, _⟩
      · rw [e1, e2]
        exact (show Rel _ _ _ _ _ _ from .bl _)
      · rw [e1, e2]
        exact (show Rel _ _ _ _ _ _ from .bl _)
    · exact .inl (old e)
  · exact .inl (old e)
theorem opd_notInC (hK : X.K = g.K) (hu : X.A.units + 1 < cLine) (h : OpD g X (compareOp .NotIn) dNotIn) : OpD g X (compareOp .NotIn) dNotInC := by
  obtain ⟨r, h1, h2⟩ := h
  refine ⟨_, opR_or h1 (op_notInDct hu), fun m st H x y w1 w2 w Q wd r1 r2 e q => ?_⟩
  have old : dNotIn st w1 w2 = some w → r x y H Q := fun e => h2 m st H x y w1 w2 w Q wd r1 r2 e q
  unfold dNotInC at e
  split at e
  · rename_i i
    split at e
    · rename_i l hl
      obtain ⟨k, hk, rfl⟩ := Option.map_eq_some_iff.mp e
      obtain ⟨a, rfl, ha⟩ := r2
      obtain ⟨vs, hH, hv⟩ := wd.cells i a _ ha (cellT_some hl)
      obtain ⟨b, rfl, hb, _⟩ := tupI_rel r1 hk
      refine .inr ⟨a, b, vs, k, rfl, rfl, hH, hK ▸ hb, q _ _ (.refl wd) ?_⟩
      rcases hv.l.val (k := k) with ⟨e1, e2⟩ | ⟨v, d, e1, e2, _⟩
      · rw [e1, e2]
        exact (show Rel _ _ _ _ _ _ from .bl _)
      · rw [e1, e2]
        exact (show Rel _ _ _ _ _ _ from .bl _)
    · exact .inl (old e)
  · exact .inl (old e)
end
theorem oInC {c : Cf} {X : Cx} (am : Amb c X) : OpD c.g X (compareOp .In) dInC := opd_inC am.K (by have := am.units; omega) (oIn am)
theorem oNotInC {c : Cf} {X : Cx} (am : Amb c X) : OpD c.g X (compareOp .NotIn) dNotInC := opd_notInC am.K (by have := am.units; omega) (oNotIn am)
/-! ### d[k] = v -/
theorem step_dct {g : G} {m : Mm} {st : Stor} {H : Hp} {j : Nat} {a : Addr} {l l' : Dc} {vs vs' : List (List Key × V)} (w : Wd g m st H) (ha : m.ad[j]? = some a) (hs : st[j]? = some (.dct l)) (hH : H a = some (.dT vs)) (r : DctR g m st H vs' l') :
    Step g m st H m (st.set j (.dct l')) (upd H a (.dT vs')) := by
  have hj := (List.getElem?_eq_some_iff.mp hs).1
  have mu : ∀ b, Mu m (st.set j (.dct l')) b ↔ Mu m st b := fun b => mu_set hs rfl rfl
  have mua : Mu m st a := .inl ⟨j, _, ha, hs, rfl⟩
  have e : Ext m st H m (st.set j (.dct l')) (upd H a (.dT vs')) := ⟨fun b o h n k => ⟨by rw [upd_ne (fun z => k (by rw [z]; exact mua))]; exact h, fun z => k ((mu b).mp z)⟩, fun b k => by
    unfold upd
    split
    · exact fun z => nomatch z
    · exact k⟩
  have hidne : ∀ b ∈ m.hid, b ≠ a := fun b hb z => w.dj a (List.mem_of_getElem? ha) (z ▸ hb)
  refine ⟨⟨by rw [List.length_set]; exact w.len, w.nd, fun b hb => e.some b (w.there b hb), fun b hb => by rw [upd_ne (hidne b hb)]; exact w.hids b hb, w.dj, fun i b c h1 h2 => ?_, fun q hq => ?_⟩, e, .refl _, fun b hb => upd_ne (hidne b hb)⟩
  · by_cases hi : j = i
    · subst hi
      rw [List.getElem?_set_self hj] at h2
      cases h2
      rw [ha] at h1
      cases h1
      exact ⟨vs', upd_same, r.ext e⟩
    · rw [List.getElem?_set_ne hi] at h2
      have ne : b ≠ a := fun z => hi (nodup_inj w.nd ha (z ▸ h1))
      exact cell_ext e (upd_ne ne) (w.cells i b c h1 h2)
  · obtain ⟨ps, t1, t2, t3⟩ := w.tabs q hq
    refine ⟨ps, (upd_ne (fun z => by rw [z, hH] at t1; cases t1)).trans t1, t2, fun pos cv hc => ?_⟩
    obtain ⟨cc, e1, e2⟩ := t3 pos cv hc
    exact ⟨cc, e1, (upd_ne (fun z => by rw [z, hH] at e2; unfold LamX.CodeO at e2; cases e2)).trans e2⟩
section
variable {c : Cf} {X : Cx} {Wx : WX} {e : Expr} {f : Den} {pos : Pos}
def sPutD (i : Nat) (fv fi : Den) : DenS := fun env st => (fv env st).then env fun w st => match envR env i with
  | none => .no
  | some j => (fi env st).then env fun wi st => match w.toD, wi.tupI with
    | some x, some k => match cellT st j with
      | none => .no
      | some l => if decide (l.length < 16777216) then .nx env (st.set j (.dct (putD l k x))) else .no
    | _, _ => .no
theorem rs_putD {i : Nat} {x : Str} {p1 p2 : Pos} {ei : Expr} {fi : Den} (he : RE c X Wx e f) (hi : RE c X Wx ei fi) (hN : X.N[i]? = some x := by rfl) (hv : Vis X.env.scope x := by first | exact Or.inl rfl | exact Or.inr (Or.inl rfl) | exact Or.inr (Or.inr rfl)) (hd : (x == ("__debug__" : Str)) = false := by decide)
    (hcd : (x == ("__classdict__" : Str)) = false := by decide) (hs : swapsWithSole [.Subscript (.Name x p1) ei p2] e pos.line X.env = pure false := by rfl) (hw : swappedStores [.Subscript (.Name x p1) ei p2] e X.env = pure none := by rfl)
    (h1 : (assignEach [.Subscript (.Name x p1) ei p2] X.env).map (·.2) = [assign (.Subscript (.Name x p1) ei p2) X.env] := by rfl)
    (hsub : ∀ v, assign (.Subscript (.Name x p1) ei p2) X.env v = (do
      let ov ← holding [v] (eval (.Name x p1) X.env)
      let iv ← holding [v, ov] (eval ei X.env)
      standAt p2
      holding [v, ov, iv] (setItem ov iv v)
      release [v, ov, iv] []) := by intro _; rfl) :
    RS c X Wx (.Assign [.Subscript (.Name x p1) ei p2] e pos) (sPutD i f fi) := ⟨fun am => by
  obtain ⟨t1, q1, v1⟩ := he.ex am.am am.tk
  obtain ⟨t2, q2, v2⟩ := hi.ex am.am am.tk
  refine ⟨_, ps_asg q1 (pg_sub (pe_var hN hv hd hcd) q2 (set_dict (by have := am.am.units; omega)) hsub) hs hw h1, fun σ H env m st D E w h => ?_⟩
  unfold sPutD at h
  refine v1 σ H env m st _ E w (h.bind (RA := RW_ c.g m) E fun w1 st1 y H1 _ s1 r1 h => ?_)
  have E1 := E.ext s1.ext s1.pre
  cases z : envR env i with
  | none => rw [z] at h; exact h.elim
  | some j =>
    rw [z] at h
    dsimp only at h
    obtain ⟨v, e1, a, rfl, ha⟩ := E1.at_ i _ (envR_some z)
    refine ⟨.ref a, e1, v2 σ H1 env m st1 _ E1 s1.wd (h.bind (RA := RW_ c.g m) E1 fun w2 st2 y2 H2 _ s2 r2 h => ?_)⟩
    cases z1 : w1.toD with
    | none => rw [z1] at h; exact h.elim
    | some x1 =>
      cases z3 : w2.tupI with
      | none => rw [z1, z3] at h; exact h.elim
      | some k =>
        rw [z1, z3] at h
        dsimp only at h
        cases z2 : cellT st2 j with
        | none => rw [z2] at h; exact h.elim
        | some l =>
          rw [z2] at h
          dsimp only at h
          split at h
          rotate_left
          · exact h.elim
          rename_i hlen
          have hlen := of_decide_eq_true hlen
          obtain ⟨vs, k1, k2⟩ := s2.wd.cells j a _ ha (cellT_some z2)
          obtain ⟨b, rfl, _, hb, _⟩ := tupI_rel r2.w0 z3
          have rv := (r1.toD z1).ext s2.ext
          have kk : k.map V.int = (k.map Sum.inl : List Key).map kV := by rw [List.map_map]; rfl
          have sc := step_dct s2.wd ha (cellT_some z2) k1 (k2.l.put (k := k) rv).r
          have hvl : vs.length < sizeLine := by rw [k2.l.len, sizeLine_eq]; exact hlen
          exact ⟨a, _, rfl, DPut.t k1 (by rw [← kk]; exact hb) hvl, h σ m _ sc ((E1.ext s2.ext s2.pre).ext sc.ext sc.pre)⟩⟩
/-! ### d[k] -/
def eGetD (i : Nat) (fi : Den) : Den := fun env st => match envR env i with
  | none => .no
  | some j => (fi env st).bind fun wi st => match wi.tupI with
    | some k => match cellT st j with
      | some l => match valD l k with
        | some d => .ok (.d d) st
        | none => .no
      | none => .no
    | none => .no
theorem re_getD {i : Nat} {x : Str} {p1 : Pos} {ei : Expr} {fi : Den} (hi : RE c X Wx ei fi) (hN : X.N[i]? = some x := by rfl) (hv : Vis X.env.scope x := by first | exact Or.inl rfl | exact Or.inr (Or.inl rfl) | exact Or.inr (Or.inr rfl)) (hd : (x == ("__debug__" : Str)) = false := by decide)
    (hcd : (x == ("__classdict__" : Str)) = false := by decide) (hs : NoSl ei := by exact fun _ _ => rfl) : RE c X Wx (.Subscript (.Name x p1) ei pos) (eGetD i fi) := ⟨fun am tk => by
  obtain ⟨t2, q2, v2⟩ := hi.ex am tk
  refine ⟨_, pe_dget (by have := am.units; omega) (pe_var hN hv hd hcd) q2 hs, fun σ H env m st Q E w h => ?_⟩
  unfold eGetD at h
  cases z : envR env i with
  | none => rw [z] at h; exact h.elim
  | some j =>
    rw [z] at h
    dsimp only at h
    obtain ⟨v, e1, a, rfl, ha⟩ := E.at_ i _ (envR_some z)
    refine ⟨.ref a, e1, v2 σ H env m st _ E w (Post.bind (RA := RW_ c.g m) back_w h fun w2 st2 _ y2 H2 s2 r2 h => ?_)⟩
    cases z3 : w2.tupI with
    | none => rw [z3] at h; exact h.elim
    | some k =>
      rw [z3] at h
      dsimp only at h
      cases z2 : cellT st2 j with
      | none => rw [z2] at h; exact h.elim
      | some l =>
        rw [z2] at h
        dsimp only at h
        obtain ⟨vs, k1, k2⟩ := s2.wd.cells j a _ ha (cellT_some z2)
        obtain ⟨b, rfl, _, hb, _⟩ := tupI_rel r2.w0 z3
        have kk : k.map V.int = (k.map Sum.inl : List Key).map kV := by rw [List.map_map]; rfl
        rcases k2.l.val (k := k) with ⟨f1, f2⟩ | ⟨v, d, f1, f2, rv⟩
        · rw [f2] at h
          exact h.elim
        · rw [f2] at h
          refine ⟨a, v, rfl, ?_, h.ok s2.wd rv⟩
          have := DGet.t (H := H2) (a := a) (b := b) (k := k.map Sum.inl) k1 (by rw [← kk]; exact hb)
          rw [f1] at this
          exact this⟩
end
end DL

/-! DL: new dicts as cells, the list of a dict's keys. -/
namespace DL
open PySem PySem.Spec PyProof.Rows L2
section
variable {g : G} {m : Mm} {st : Stor} {H : Hp} {p : Addr}
/-- a new dict, hidden -/
theorem stepP_hideD {o : List (List Key × V)} (w : Wd g m st H) (hp : H p = none) : StepP g m st H (m.hide p) st (upd H p (.dT o)) := by
  have e : Ext m st H (m.hide p) st (upd H p (.dT o)) := ⟨fun a q h n k => ⟨by rw [upd_ne (ne_of_none h hp)]; exact h, fun z => (mu_hide.mp z).elim (fun z => ne_of_none h hp z) k⟩, (ext_new w hp).some⟩
  refine ⟨⟨w.len, w.nd, fun a ha => e.some a (w.there a ha), fun a ha => ?_, fun a ha hm => ?_, fun i a c h1 h2 => ?_, (wd_new w hp).tabs⟩, e, .refl _, fun a ha => List.mem_cons_of_mem _ ha, fun a ha => upd_ne (fun z => w.hn ha (by rw [z]; exact hp))⟩
  · rcases List.mem_cons.mp ha with z | z
    · subst z; exact .inr ⟨o, upd_same⟩
    · rw [upd_ne (fun e => w.hn z (by rw [e]; exact hp))]; exact w.hids a z
  · rcases List.mem_cons.mp hm with z | z
    · exact w.there a ha (by rw [z]; exact hp)
    · exact w.dj a ha z
  · have ne : a ≠ p := fun z => w.there a (List.mem_of_getElem? h1) (by rw [z]; exact hp)
    exact cell_ext e (upd_ne ne) (w.cells i a c h1 h2)
theorem ext_hidD {xs ys : List (List Key × V)} (hm : p ∈ m.hid) (h : H p = some (.dT xs)) : Ext m st H m st (upd H p (.dT ys)) := ⟨fun a q h2 n k => ⟨by rw [upd_ne (fun z => k (.inr (by rw [z]; exact hm)))]; exact h2, k⟩, fun a k => by
    unfold upd
    split
    · exact fun z => nomatch z
    · exact k⟩
theorem wd_hidD {xs ys : List (List Key × V)} (w : Wd g m st H) (hm : p ∈ m.hid) (hn : p ∉ m.ad) (h : H p = some (.dT xs)) : Wd g m st (upd H p (.dT ys)) := by
  have e : Ext m st H m st (upd H p (.dT ys)) := ext_hidD hm h
  refine ⟨w.len, w.nd, fun a ha => e.some a (w.there a ha), fun a ha => ?_, w.dj, fun i a c h1 h2 => ?_, ?_⟩
  · by_cases z : a = p
    · subst z; exact .inr ⟨ys, upd_same⟩
    · rw [upd_ne z]; exact w.hids a ha
  · have ne : a ≠ p := fun z => hn (by rw [← z]; exact List.mem_of_getElem? h1)
    exact cell_ext e (upd_ne ne) (w.cells i a c h1 h2)
  · intro q hq
    obtain ⟨ps, t1, t2, t3⟩ := w.tabs q hq
    refine ⟨ps, by rw [upd_ne (fun z => by rw [z, h] at t1; cases t1)]; exact t1, t2, fun pos cv hc => ?_⟩
    obtain ⟨cc, e1, e2⟩ := t3 pos cv hc
    exact ⟨cc, e1, by rw [upd_ne (fun z => by rw [z, h] at e2; unfold LamX.CodeO at e2; cases e2)]; exact e2⟩
theorem ext_cellC {cc : Cell} (hl : m.ad.length = st.length) : Ext (m.hide p) st H ⟨m.ad ++ [p], m.hid⟩ (st ++ [cc]) H :=
  ⟨fun a o h n k => ⟨h, fun z => k (mu_hide.mpr ((mu_push hl z).symm))⟩, fun _ h => h⟩
/-- what is hidden becomes a cell -/
theorem step_allocC {H0 : Hp} {cc : Cell} (wd : Wd g m st H) (hp : H p ≠ none) (r : CellR g (m.hide p) st H p cc) (h0 : H0 p = none) (w : Wd g (m.hide p) st H) {st0 : Stor} (s : Step g m st0 H0 m st H) (w0 : Wd g m st0 H0) :
    Step g m st0 H0 ⟨m.ad ++ [p], m.hid⟩ (st ++ [cc]) H := by
  have hpa : p ∉ m.ad := fun hm => w0.there p hm h0
  have e := ext_cellC (m := m) (st := st) (H := H) (p := p) (cc := cc) wd.len
  refine ⟨⟨by show (m.ad ++ [p]).length = (st ++ [cc]).length; rw [List.length_append, List.length_append, wd.len]; rfl, ?_, fun a ha => ?_, wd.hids, fun a ha hm => ?_, fun i a c h1 h2 => ?_, wd.tabs⟩, ⟨fun a o h n k => ?_, s.ext.some⟩, ⟨⟨[p], rfl⟩, rfl⟩, s.hid⟩
  · show (m.ad ++ [p]).Nodup
    rw [List.nodup_append]
    exact ⟨wd.nd, by simp, fun a ha b hb => by
      rw [List.mem_singleton] at hb
      subst hb
      exact fun z => hpa (z ▸ ha)⟩
  · rcases List.mem_append.mp ha with z | z
    · exact wd.there a z
    · rw [List.mem_singleton] at z
      rw [z]
      exact hp
  · rcases List.mem_append.mp ha with z | z
    · exact wd.dj a z hm
    · rw [List.mem_singleton] at z
      exact w0.hn hm (by rw [z]; exact h0)
  · have h1 : (m.ad ++ [p])[i]? = some a := h1
    rcases Nat.lt_or_ge i m.ad.length with hi | hi
    · rw [List.getElem?_append_left hi] at h1
      rw [List.getElem?_append_left (by rw [← wd.len]; exact hi)] at h2
      exact cell_ext e rfl (w.cells i a c h1 h2)
    · have hi2 : i = m.ad.length := by
        have := (List.getElem?_eq_some_iff.mp h1).1
        rw [List.length_append, List.length_singleton] at this
        omega
      subst hi2
      rw [wd.len] at h2
      simp at h1 h2
      subst h1 h2
      exact cell_ext e rfl r
  · obtain ⟨h1, k1⟩ := s.ext.keep a o h n k
    exact ⟨h1, fun z => (mu_push wd.len z).elim k1 (fun z => ne_of_none h h0 z)⟩
end
/-! ### items of a, b = .. that may be new cells -/
abbrev DItm := Envi → Stor → (SV → Stor → Out) → Out
def itE (b : Bool) (f : Den) : DItm := fun env st k => (f env st).then env fun w st => Out.ofP (pushM b w st) k
def itD0 : DItm := fun _ st k => k (.r st.length) (st ++ [.dct []])
def itD1 (fk fv : Den) : DItm := fun env st k => match fk env st with
  | .ok wk st1 => match fv env st1 with
    | .ok wv st2 => match wk.tupI, wv.toD with
      | some x, some d => k (.r st2.length) (st2 ++ [.dct [(x, d)]])
      | _, _ => .no
    | _ => .no
  | _ => .no
structure RIt (c : Cf) (X : Cx) (Wx : WX) (e : Expr) (it : DItm) : Prop where
  ex : AmbS c X Wx → ∃ t, PE X e t ∧ ∀ σ H env m st D (k : SV → Stor → Out) (Q : V → Hp → Prop), EnvR c.g m st H σ env → Wd c.g m st H → PostS c.g m Wx st H (it env st k) D →
    (∀ s v m' st' H', Step c.g m st H m' st' H' → RelS c.g m' st' H' v s → PostS c.g m' Wx st' H' (k s st') D → Q v H') → t σ H Q
section
variable {c : Cf} {X : Cx} {Wx : WX} {e ke ve : Expr} {f fk fv : Den} {pos : Pos}
theorem rit_e {b : Bool} (he : RE c X Wx e f) : RIt c X Wx e (itE b f) := ⟨fun am => by
  obtain ⟨t1, p1, v1⟩ := he.ex am.am am.tk
  refine ⟨_, p1, fun σ H env m st D k Q E w h q => v1 σ H env m st _ E w (h.bind0 (RA := RW_ c.g m) E fun a st' v H' _ s r h => ?_)⟩
  cases z : pushM b a st' with
  | none => rw [z] at h; exact h.elim
  | some p =>
    obtain ⟨sv, st2⟩ := p
    rw [z] at h
    obtain ⟨m2, s2, r2⟩ := push_step w s r z
    exact q sv v m2 st2 H' s2 r2 (h.moved s2)⟩
theorem rit_d1 (hk : RE c X Wx ke fk) (hv : RE c X Wx ve fv) : RIt c X Wx (.Dict [some ke] [ve] pos) (itD1 fk fv) := ⟨fun am => by
  obtain ⟨t1, p1, v1⟩ := hk.ex am.am am.tk
  obtain ⟨t2, p2, v2⟩ := hv.ex am.am am.tk
  refine ⟨_, pe_disp1 (by have := am.am.units; omega) p1 p2, fun σ H env m st D k Q E w h q p hp => ?_⟩
  have s0 := stepP_hideD (o := []) w hp
  have hpad : p ∉ m.ad := fun hm => w.there p hm hp
  have E0 := E.extP s0.ext s0.pad
  unfold itD1 at h
  cases z1 : fk env st with
  | no => rw [z1] at h; exact h.elim
  | err x st1 => rw [z1] at h; exact h.elim
  | ok wk st1 =>
    rw [z1] at h
    dsimp only at h
    cases z2 : fv env st1 with
    | no => rw [z2] at h; exact h.elim
    | err x st2 => rw [z2] at h; exact h.elim
    | ok wv st2 =>
      rw [z2] at h
      dsimp only at h
      refine v1 σ _ env (m.hide p) st _ E0 s0.wd ?_
      rw [z1]
      intro y H1 s1 r1
      refine v2 σ H1 env (m.hide p) st1 _ (E0.ext s1.ext s1.pre) s1.wd ?_
      rw [z2]
      intro v H2 s2 r2
      cases z3 : wk.tupI with
      | none => rw [z3] at h; exact h.elim
      | some x =>
        cases z4 : wv.toD with
        | none => rw [z3, z4] at h; exact h.elim
        | some d =>
          rw [z3, z4] at h
          dsimp only at h
          have hph : p ∈ (m.hide p).hid := List.mem_cons_self
          have s12 := s1.trans s2
          have hH2 : H2 p = some (.dT []) := (s12.hid p hph).trans upd_same
          obtain ⟨b, rfl, hb, hb2, hnm⟩ := tupI_rel r1.w0 z3
          obtain ⟨hb2, hnm⟩ := s2.ext.keep b _ hb2 (fun ps z => nomatch z) hnm
          have kk : x.map V.int = (x.map Sum.inl : List Key).map kV := by rw [List.map_map]; rfl
          refine ⟨hH2, x.map Sum.inl, b, rfl, by rw [← kk]; exact hb2, ?_⟩
          have rv := r2.toD z4
          have eh := ext_hidD (m := m.hide p) (st := st2) (ys := [(x.map Sum.inl, v)]) hph hH2
          have wh : Wd c.g (m.hide p) st2 (upd H2 p (.dT [(x.map Sum.inl, v)])) := wd_hidD s2.wd hph hpad hH2
          have s3 : StepP c.g m st H (m.hide p) st2 (upd H2 p (.dT [(x.map Sum.inl, v)])) := by
            have s := s0.trans s12.p
            refine ⟨wh, s.ext.trans eh, s.pad, s.sub, fun a ha => ?_⟩
            rw [upd_ne (fun z => w.hn ha (by rw [z]; exact hp))]
            exact s.hid a ha
          have st : Step c.g m st H m st2 (upd H2 p (.dT [(x.map Sum.inl, v)])) := ⟨wd_unhide wh, s3.ext.trans ext_unhide, .refl _, s3.hid⟩
          have sa := step_allocC (cc := .dct [(x, d)]) st.wd (by rw [upd_same]; exact fun z => nomatch z) ⟨_, upd_same, (DctL.cons (rv.ext eh) .nil : DctL _ _ _ _ _ [(x, d)]).r⟩ hp wh st w
          refine q (.r st2.length) _ _ _ _ sa ⟨p, rfl, ?_⟩ (h.moved sa)
          show (m.ad ++ [p])[st2.length]? = some p
          rw [← st.wd.len]
          simp⟩
theorem rit_d0 : RIt c X Wx (.Dict [] [] pos) itD0 := ⟨fun am => by
  refine ⟨_, pe_dnewT, fun σ H env m st D k Q E w h q p hp => ?_⟩
  have s0 := stepP_hideD (o := []) w hp
  have st0 : Step c.g m st H m st (upd H p (.dT [])) := ⟨wd_unhide s0.wd, s0.ext.trans ext_unhide, .refl _, s0.hid⟩
  have sa := step_allocC (cc := .dct []) st0.wd (by rw [upd_same]; exact fun z => nomatch z) ⟨_, upd_same, (DctL.nil : DctL _ _ _ _ _ []).r⟩ hp s0.wd st0 w
  refine q (.r st.length) _ _ _ _ sa ⟨p, rfl, ?_⟩ (h.moved sa)
  show (m.ad ++ [p])[st.length]? = some p
  rw [← st0.wd.len]
  simp⟩
/-! ### x = {..} -/
def sSetD (i : Nat) (it : DItm) : DenS := fun env st => it env st fun s st => match setE env i s with
  | some env => .nx env st
  | none => .no
theorem rs_setD {i : Nat} {x : Str} {pos' : Pos} {it : DItm} (he : RIt c X Wx e it) (hi : X.N[i]? = some x := by rfl) (hx : Loc X.env.scope x := by first | exact Or.inl rfl | exact Or.inr rfl) (hs : swapsWith e (some (.Name x pos')) pos.line X.env = pure false := by rfl) (hf : X.fn x = true ∨ X.env.scope.names.lookup x = some .local := by first | exact .inl rfl | exact .inr rfl) :
    RS c X Wx (.Assign [.Name x pos'] e pos) (sSetD i it) := ⟨fun am => by
  obtain ⟨t1, p1, v1⟩ := he.ex am
  refine ⟨_, ps_set am.am.nd hi hx p1 hs hf, fun σ H env m st D E w h => v1 σ H env m st D _ _ E w h fun s v m' st' H' s1 r h => ?_⟩
  cases z : setE env i s with
  | none => rw [z] at h; exact h.elim
  | some env1 =>
    rw [z] at h
    obtain ⟨hi, rfl⟩ := setE_some z
    exact h _ m' H' (.refl s1.wd) ((E.ext s1.ext s1.pre).set hi r)⟩
/-! ### a, b = .. -/
@[simp] def evN : List DItm → Envi → Stor → (List SV → Stor → Out) → Out
  | [], _, st, k => k [] st
  | it :: r, env, st, k => it env st fun s st => evN r env st fun ss st => k (s :: ss) st
def sParN (l : List DItm) (is : List Nat) : DenS := fun env st => evN l env st fun ss st => match setsE env is ss with
  | some env => .nx env st
  | none => .no
structure RAn (c : Cf) (X : Cx) (Wx : WX) (es : List Expr) (l : List DItm) : Prop where
  ex : AmbS c X Wx → ∃ t, PA X es t ∧ ∀ σ H env m st D (k : List SV → Stor → Out) (Q : List V → Hp → Prop), EnvR c.g m st H σ env → Wd c.g m st H → PostS c.g m Wx st H (evN l env st k) D →
    (∀ ss vs m' st' H', Step c.g m st H m' st' H' → RelSs c.g m' st' H' vs ss → PostS c.g m' Wx st' H' (k ss st') D → Q vs H') → t σ H Q
theorem ran_nil : RAn c X Wx [] [] := ⟨fun am => ⟨_, pa_nil, fun σ H env m st D k Q E w h q => q [] [] m st H (.refl w) .nil h⟩⟩
theorem ran_cons {es : List Expr} {it : DItm} {l : List DItm} (he : RIt c X Wx e it) (hr : RAn c X Wx es l) (hs : starEach (e :: es) X.env = (false, eval e X.env) :: starEach es X.env := by rfl) : RAn c X Wx (e :: es) (it :: l) := ⟨fun am => by
  obtain ⟨t1, p1, v1⟩ := he.ex am
  obtain ⟨t2, p2, v2⟩ := hr.ex am
  refine ⟨_, pa_cons p1 p2 hs, fun σ H env m st D k Q E w h q => v1 σ H env m st D _ _ E w h fun s v m2 st2 H' s2 r2 h => ?_⟩
  refine v2 σ H' env m2 st2 D _ _ (E.ext s2.ext s2.pre) s2.wd h fun ss vs m' st' H2 s3 r3 h3 => ?_
  exact q (s :: ss) (v :: vs) m' st' H2 (s2.trans s3) (.cons (r2.ext s3.ext s3.pre.pad) r3) h3⟩
theorem rs_parN {i j : Nat} {x y : Str} {e1 e2 : Expr} {l : List DItm} {px py pt pt2 pos : Pos} {kt k2 : Nat} (ha : RAn c X Wx [e1, e2] l) (hi : X.N[i]? = some x := by rfl) (hj : X.N[j]? = some y := by rfl) (hij : i ≠ j := by decide) (hx : X.env.scope.names.lookup x = some .local := by rfl) (hy : X.env.scope.names.lookup y = some .local := by rfl)
    (hw : swappedStores [.Tuple [.Name x px, .Name y py] kt pt] (.Tuple [e1, e2] k2 pt2) X.env = pure (some [x, y]) := by rfl)
    (hs : swapsWithSole [.Tuple [.Name x px, .Name y py] kt pt] (.Tuple [e1, e2] k2 pt2) pos.line X.env = pure false := by rfl) (hc : X.calm = true := by rfl) :
    RS c X Wx (.Assign [.Tuple [.Name x px, .Name y py] kt pt] (.Tuple [e1, e2] k2 pt2) pos) (sParN l [i, j]) := ⟨fun am => by
  obtain ⟨t1, p1, v1⟩ := ha.ex am
  refine ⟨_, ps_par hc am.am.nd hi hj hij hx hy p1 hw hs, fun σ H env m st D E w h => v1 σ H env m st D _ _ E w h fun ss vs m' st' H' s r h => ?_⟩
  match ss, vs, r, h with
  | [s1, s2], [v1, v2], .cons r1 (.cons r2 .nil), h =>
    refine ⟨_, _, rfl, ?_⟩
    simp only [setsE] at h
    cases z1 : setE env i s1 with
    | none => rw [z1] at h; exact h.elim
    | some env1 =>
      rw [z1] at h
      simp only [Option.bind_some] at h
      cases z2 : setE env1 j s2 with
      | none => rw [z2] at h; exact h.elim
      | some env2 =>
        rw [z2] at h
        obtain ⟨h1, rfl⟩ := setE_some z1
        obtain ⟨h2, rfl⟩ := setE_some z2
        exact h _ m' H' (.refl s.wd) (((E.ext s.ext s.pre).set h1 r1).set h2 r2)
  | [], _, _, h => exact h.elim
  | [_], _, _, h => simp only [setsE] at h; cases z1 : setE env i _ <;> (rw [z1] at h; exact h.elim)
  | _ :: _ :: _ :: _, _, _, h =>
    simp only [setsE] at h
    cases z1 : setE env i _ with
    | none => rw [z1] at h; exact h.elim
    | some env1 =>
      rw [z1] at h
      simp only [Option.bind_some] at h
      cases z2 : setE env1 j _ <;> (rw [z2] at h; exact h.elim)⟩
theorem rs_unpN {l : List DItm} {is : List Nat} {es tgs : List Expr} {kt k2 : Nat} {pt pt2 pos : Pos} (ha : RAn c X Wx es l) (hg : RGm c X tgs is) (hlen : decide (is.length ≤ 100) = true := by rfl)
    (hn : (assignEach tgs X.env).length = is.length := by rfl) (hst : (assignEach tgs X.env).findIdx? (·.1) = none := by rfl) (hc : X.calm = true := by rfl)
    (hs : swapsWithSole [.Tuple tgs kt pt] (.Tuple es k2 pt2) pos.line X.env = pure false := by rfl) (hw : swappedStores [.Tuple tgs kt pt] (.Tuple es k2 pt2) X.env = pure none := by rfl)
    (h1 : (assignEach [.Tuple tgs kt pt] X.env).map (·.2) = [assign (.Tuple tgs kt pt) X.env] := by rfl) : RS c X Wx (.Assign [.Tuple tgs kt pt] (.Tuple es k2 pt2) pos) (sParN l is) := ⟨fun am => by
  obtain ⟨t1, p1, v1⟩ := ha.ex am
  obtain ⟨t2, p2, v2⟩ := hg.ex am.am
  refine ⟨_, ps_asg (pe_tup p1) (pg_tup hc p2 hn hst) hs hw h1, fun σ H env m st D E w h => v1 σ H env m st D _ _ E w h fun ss vs m' st' H' s r h => ?_⟩
  cases z : setsE env is ss with
  | none => rw [z] at h; exact h.elim
  | some env' =>
    rw [z] at h
    have hl := (relSs_len r).trans (setsE_len z)
    have hb := of_decide_eq_true hlen
    refine ⟨by rw [hl, sizeLine_eq]; omega, fun p hp => ?_⟩
    have sn := step_new (o := .tup vs) s.wd hp
    refine ⟨p, vs, rfl, .inl (.inl upd_same), hl, v2 vs ss σ _ env env' m' st' _ ((E.ext s.ext s.pre).ext sn.ext sn.pre) (relSs_ext sn.ext sn.pre.pad r) z fun σ' E' => h σ' m' _ sn E'⟩⟩
/-! ### list(d), len(d) -/
def dListK (st : Stor) : List W → Option W
  | [.r i] => (cellT st i).map fun l => .n (l.map fun p => .tup (p.1.map .int))
  | _ => none
theorem nomu_tup {g : G} {m : Mm} {st : Stor} {H : Hp} {b : Addr} {xs : List V} (wd : Wd g m st H) (h : H b = some (.tup xs)) : ¬ Mu m st b := by
  rintro (⟨i, cc, h1, h2, h3⟩ | h1)
  · have := wd.cells i b cc h1 h2
    cases cc with
    | dead => cases h3
    | lst l => obtain ⟨vs, e, _⟩ := this; rw [h] at e; cases e
    | dct l => obtain ⟨vs, e, _⟩ := this; rw [h] at e; cases e
  · rcases wd.hids b h1 with ⟨_, e⟩ | ⟨_, e⟩ <;> (rw [h] at e; cases e)
theorem keysL {g : G} {m : Mm} {st : Stor} {H : Hp} (wd : Wd g m st H) : ∀ {vs : List (List Key × V)} {l : Dc} {bs : List Addr}, DctL g m st H vs l → IsKeys H vs bs → RelL g m st H (bs.map V.ref) (l.map fun p => D.tup (p.1.map .int))
  | _, _, _, .nil, .nil => .nil
  | _, _, _, .cons (k := k) r t, .cons h t2 => by
    have kk : (k.map Sum.inl : List Key).map kV = k.map V.int := by rw [List.map_map]; rfl
    dsimp only at h
    rw [kk] at h
    exact .cons (.tup (.inl ⟨h, nomu_tup wd h⟩) RelL.of_ints) (keysL wd t t2)
theorem cd_listK {g : G} (hc : X.calm = true) : CallD g X (.type "list") dListK := ⟨_, call_list_dT hc, fun m st H xs ws w Q wd r e q => by
  unfold dListK at e
  split at e
  · rename_i i
    obtain ⟨l, hl, rfl⟩ := Option.map_eq_some_iff.mp e
    obtain ⟨x, _, rfl, r1⟩ := r.one
    obtain ⟨a, rfl, ha⟩ := r1
    obtain ⟨vs, hH, hv⟩ := wd.cells i a _ ha (cellT_some hl)
    exact ⟨a, vs, rfl, .inl hH, fun p bs hp hk => q _ _ (step_new wd hp) (rel_newL wd hp (keysL wd hv.l hk))⟩
  · cases e⟩
theorem r_listK {a : Expr} {fs : DenA} {p pos : Pos} (ha : RAs c X Wx [a] fs) (hg : Gl X "list" := by rfl) (he : starEach [a] X.env = (false, eval a X.env) :: starEach [] X.env := by rfl) (hc : X.calm = true := by rfl) : RE c X Wx (.Call (.Name "list" p) [a] [] pos) (eB dListK fs) := re_blT (fun am => cd_listK hc) (by decide) (by decide +kernel) ha hg (by decide) (by decide) he rfl
end
@[simp] theorem dListK_c {st : Stor} {i : Nat} {l : Dc} (h : cellT st i = some l) : dListK st [.r i] = some (.n (l.map fun p => .tup (p.1.map .int))) := by simp [dListK, h]
end DL

namespace DLk41
open PySem PySem.Spec PyProof.Rows L2 LamX DL
def topS (i : Nat) : Stmt := PySem.Challenge.pw_letterspiled_k41_whole_round_words.main.body.getD i (.Pass ⟨0, 0, 0, 0⟩)
abbrev fns : List Str := [("is_whole" : Str), ("is_tuple_of" : Str), ("is_pair" : Str), ("is_letters" : Str), ("need_letters" : Str), ("is_free" : Str), ("is_signed" : Str), ("is_turned_of" : Str), ("need_turned" : Str), ("may_pass" : Str), ("key_of" : Str), ("meeting_place" : Str), ("reduced_in" : Str), ("front_places" : Str), ("ordered_in" : Str), ("least_in" : Str), ("back_in" : Str), ("end_places" : Str), ("outer_places" : Str), ("round_in" : Str), ("is_round_in" : Str), ("shows_round" : Str), ("is_round" : Str), ("round_of" : Str), ("is_round_of" : Str), ("round_length" : Str), ("_law_cup" : Str), ("_law_roll" : Str), ("_law_some" : Str), ("_law_sort" : Str), ("_law_like" : Str), ("_law_letters" : Str), ("_law_word" : Str), ("_law_free" : Str), ("_law_class" : Str), ("_law_order" : Str), ("_law_reduced" : Str), ("_law_least" : Str), ("_law_error" : Str), ("_law_no_letters" : Str), ("_law_no_words" : Str), ("_law_is_round" : Str), ("_law_back" : Str), ("_law_quick" : Str), ("_law_word_right" : Str), ("_law_errors" : Str), ("law" : Str)]
abbrev cls_ : List Str := ["PileError", "InvalidLetters", "InvalidTurned"]
def sub_ (i j : Nat) : Bool := (([[0], [0, 1], [0, 2], [0, 3]] : List (List Nat)).getD i []).contains j
def hs_err : DenS := (sSeq (sSet 2 (eLst (aCons (eTup (aCons (eC (.str "letters")) (aCons (eIsE cls_ sub_ 1 1) aNil))) (aCons (eTup (aCons (eC (.str "turned")) (aCons (eIsE cls_ sub_ 1 2) aNil))) aNil)))) (sSeq (sSet 3 (eLc (iSl (eV 2)) (tT 2 (tCons (tN 4) (tCons (tN 5) tNil))) (bV (eV 5)) (eV 4))) (sRet (eJoin (eC (.str " ")) (eOp dAdd (eV 3) (eIf (bV (eIsE cls_ sub_ 1 3)) (eLst (aCons (eOp dAdd (eC (.str "many ")) eNo) aNil)) (eLst aNil)))))))
def errI : ErrI := { i := 38, x := "_law_error", st := topS 51, N := ["call", "e", "pairs", "words", "word", "good"], a := "call", n := 1, c := 0, hd := fun x st => fin st.length (hs_err ((List.replicate 6 none).set 1 (some (.x x))) st), ret := "" }
abbrev prg : Prg := { fn := fns, cl := cls_, cons := [("MOST", (.int 8)), ("LONG", (.int 24))], sub := sub_, er := some errI, xcl := ["TooMany"] }
theorem err_ok : ErrOk prg errI hs_err := ⟨⟨rfl, rfl, rfl, by decide +kernel, rfl, by decide +kernel, by decide +kernel⟩, fun _ _ _ _ _ _ us hl => match us, hl with | [_], _ => rfl, fun _ _ => rfl, ⟨rfl, .inl rfl, by decide, by decide⟩, ⟨_, _, _, _, _, _, _, _, _, _, _, _, _, rfl, rfl, rfl, rfl, rfl, by decide, fun _ => rfl, fun ⟨_, g, R, k, R2, k2, _⟩ Pg w K mg base f cdv A outer s H a oe cls d pn hP hl hx hz hf => by
  cases hP
  cases hl
  exact (rss_cons (rs_set (i := 2) (re_lst (ra_cons (re_tup (ra_cons re_str (ra_cons (re_isE (i := 1) (j := 1) hx hz hf) ra_nil))) (ra_cons (re_tup (ra_cons re_str (ra_cons (re_isE (i := 1) (j := 2) hx hz hf) ra_nil))) ra_nil)))) (rss_cons (rs_setLcH (i := 3) (own := [("word", 4), ("good", 5)]) (slots := [4, 5]) (re_v (i := 2)) (blkOk_by (by kernel_rfl)) (fun _ => Iff.rfl) (fun _ _ _ _ _ => (rgh_tup (rgs_cons (i := 4) (rgs_cons (i := 5) rgs_nil)))) (fun _ _ _ _ _ => (rts_one (rt_val (re_v (i := 5))))) (fun _ _ _ _ _ => (re_v (i := 4)))) (rss_one (rs_ret (re_join re_str (re_op oAdd (re_v (i := 3)) (re_if (rt_val (re_isE (i := 1) (j := 3) hx hz hf)) (re_lst (ra_cons (re_op oAdd re_str re_no) ra_nil)) (re_lst ra_nil))))))))⟩⟩
/-! 0 is_whole: ['value', 'low', 'high']; mut [] -/
abbrev s_is_whole : Stmt := topS 6
def b_is_whole (R R2 : Calls) : DenS := (sRet (eAnd (eIs "int" (eV 0)) (eAnd (eNot (eIs "bool" (eV 0))) (eChain dLe dLe (eV 1) (eV 0) (eV 2)))))
def d_is_whole : DefI := ⟨"is_whole", s_is_whole, ["value", "low", "high"], ["value", "low", "high"], false, b_is_whole⟩
theorem ok_is_whole : d_is_whole.Ok prg := ⟨⟨rfl, rfl, rfl, by decide +kernel, rfl, by decide +kernel, by decide +kernel⟩, fun ⟨_, g, R, k, R2, k2, lm⟩ Pg w K mg base f cdv A outer s H E Wx hP hl => by
  cases hP
  cases hl
  exact (rss_one (rs_ret (re_and (r_is_int (re_v (i := 0))) (re_and (re_not (r_is_bool (re_v (i := 0)))) (re_one (re_chain oLe oLe (re_v (i := 1)) (re_v (i := 0)) (re_v (i := 2)))))))), fun _ _ _ _ _ _ us hl => match us, hl with | [_, _, _], _ => rfl⟩
/-! 1 is_tuple_of: ['value', 'low', 'high']; mut [] -/
abbrev s_is_tuple_of : Stmt := topS 7
def b_is_tuple_of (R R2 : Calls) : DenS := (sRet (eAnd (eIs "tuple" (eV 0)) (eChain dLe dLe (eV 1) (eB dLen (DL.gCons (eV 0) DL.gNil)) (eV 2))))
def d_is_tuple_of : DefI := ⟨"is_tuple_of", s_is_tuple_of, ["value", "low", "high"], ["value", "low", "high"], false, b_is_tuple_of⟩
theorem ok_is_tuple_of : d_is_tuple_of.Ok prg := ⟨⟨rfl, rfl, rfl, by decide +kernel, rfl, by decide +kernel, by decide +kernel⟩, fun ⟨_, g, R, k, R2, k2, lm⟩ Pg w K mg base f cdv A outer s H E Wx hP hl => by
  cases hP
  cases hl
  exact (rss_one (rs_ret (re_and (r_is_tuple (re_v (i := 0))) (re_one (re_chain oLe oLe (re_v (i := 1)) (r_len (ras_cons (re_v (i := 0)) ras_nil)) (re_v (i := 2))))))), fun _ _ _ _ _ _ us hl => match us, hl with | [_, _, _], _ => rfl⟩
/-! 2 is_pair: ['many', 'value', 'own']; mut [] -/
abbrev s_is_pair : Stmt := topS 10
def b_is_pair (R R2 : Calls) : DenS := (sRet (eAnd (eCall R 1 (DL.gCons (eV 1) (DL.gCons (eC (.int 2)) (DL.gCons (eC (.int 2)) DL.gNil)))) (eAnd (eB dAll (DL.gCons (eLc (iS (eV 1)) (tN 2) bYes (eCall R 0 (DL.gCons (eV 2) (DL.gCons (eC (.int 0)) (DL.gCons (eOp dSub (eV 0) (eC (.int 1))) DL.gNil))))) DL.gNil)) (eOp dLt (eOp dIx (eV 1) (eC (.int 0))) (eOp dIx (eV 1) (eC (.int 1)))))))
def d_is_pair : DefI := ⟨"is_pair", s_is_pair, ["many", "value", "own"], ["many", "value"], false, b_is_pair⟩
theorem ok_is_pair : d_is_pair.Ok prg := ⟨⟨rfl, rfl, rfl, by decide +kernel, rfl, by decide +kernel, by decide +kernel⟩, fun ⟨_, g, R, k, R2, k2, lm⟩ Pg w K mg base f cdv A outer s H E Wx hP hl => by
  cases hP
  cases hl
  exact (rss_one (rs_ret (re_and (re_call (i := 1) rfl (ras_cons (re_v (i := 1)) (ras_cons re_int (ras_cons re_int ras_nil)))) (re_and (r_all (ras_cons (re_lc (own := [("own", 2)]) (slots := [2]) (ri_seq (re_v (i := 1))) (blkOk_by (by kernel_rfl)) (fun _ => Iff.rfl) (fun _ _ _ _ _ => (rg_name (i := 2))) (fun _ _ _ _ _ => rts_nil) (fun _ _ _ _ _ => (re_call (i := 0) rfl (ras_cons (re_v (i := 2)) (ras_cons re_int (ras_cons (re_op oSub (re_v (i := 0)) re_int) ras_nil)))))) ras_nil)) (re_one (re_cmp oLt (re_ix (re_v (i := 1)) re_int) (re_ix (re_v (i := 1)) re_int))))))), fun _ _ _ _ _ _ us hl => match us, hl with | [_, _], _ => rfl⟩
/-! 3 is_letters: ['value', 'pair', 'at']; mut [] -/
abbrev s_is_letters : Stmt := topS 11
def b_is_letters (R R2 : Calls) : DenS := (sSeq (sIf (bOr (bNot (bV (eCall R 1 (DL.gCons (eV 0) (DL.gCons (eC (.int 2)) (DL.gCons (eC (.int 2)) DL.gNil)))))) (bOr (bNot (bV (eCall R 0 (DL.gCons (eOp dIx (eV 0) (eC (.int 0))) (DL.gCons (eC (.int 1)) (DL.gCons (eC (.int 8)) DL.gNil)))))) (bNot (bV (eCall R 1 (DL.gCons (eOp dIx (eV 0) (eC (.int 1))) (DL.gCons (eC (.int 0)) (DL.gCons (eOp dMul (eC (.int 8)) (eC (.int 8))) DL.gNil)))))))) (sRet (eC (.bl false))) sNext) (sSeq (sIf (bNot (bV (eB dAll (DL.gCons (eLc (iS (eOp dIx (eV 0) (eC (.int 1)))) (tN 1) bYes (eCall R 2 (DL.gCons (eOp dIx (eV 0) (eC (.int 0))) (DL.gCons (eV 1) DL.gNil)))) DL.gNil)))) (sRet (eC (.bl false))) sNext) (sRet (eB dAll (DL.gCons (eLc (i1 (eOp dSub (eB dLen (DL.gCons (eOp dIx (eV 0) (eC (.int 1))) DL.gNil)) (eC (.int 1)))) (tN 2) bYes (eOp dLt (eOp dIx (eOp dIx (eV 0) (eC (.int 1))) (eV 2)) (eOp dIx (eOp dIx (eV 0) (eC (.int 1))) (eOp dAdd (eV 2) (eC (.int 1)))))) DL.gNil)))))
def d_is_letters : DefI := ⟨"is_letters", s_is_letters, ["value", "pair", "at"], ["value"], false, b_is_letters⟩
theorem ok_is_letters : d_is_letters.Ok prg := ⟨⟨rfl, rfl, rfl, by decide +kernel, rfl, by decide +kernel, by decide +kernel⟩, fun ⟨_, g, R, k, R2, k2, lm⟩ Pg w K mg base f cdv A outer s H E Wx hP hl => by
  cases hP
  cases hl
  exact (rss_cons (rs_if (RWt.rt (rw_or (rt_not (rt_val (re_call (i := 1) rfl (ras_cons (re_v (i := 0)) (ras_cons re_int (ras_cons re_int ras_nil)))))) (rw_or (rt_not (rt_val (re_call (i := 0) rfl (ras_cons (re_ix (re_v (i := 0)) re_int) (ras_cons re_int (ras_cons (re_con (List.mem_of_getElem? (i := 0) rfl)) ras_nil)))))) (rw_or1 (rt_not (rt_val (re_call (i := 1) rfl (ras_cons (re_ix (re_v (i := 0)) re_int) (ras_cons re_int (ras_cons (re_op oMul (re_con (List.mem_of_getElem? (i := 0) rfl)) (re_con (List.mem_of_getElem? (i := 0) rfl))) ras_nil)))))))))) (rss_one (rs_ret re_bl)) rss_nil) (rss_cons (rs_if (rt_not (rt_val (r_all (ras_cons (re_lc (own := [("pair", 1)]) (slots := [1]) (ri_seq (re_ix (re_v (i := 0)) re_int)) (blkOk_by (by kernel_rfl)) (fun _ => Iff.rfl) (fun _ _ _ _ _ => (rg_name (i := 1))) (fun _ _ _ _ _ => rts_nil) (fun _ _ _ _ _ => (re_call (i := 2) rfl (ras_cons (re_ix (re_v (i := 0)) re_int) (ras_cons (re_v (i := 1)) ras_nil))))) ras_nil)))) (rss_one (rs_ret re_bl)) rss_nil) (rss_one (rs_ret (r_all (ras_cons (re_lc (own := [("at", 2)]) (slots := [2]) (ri_range1 (re_op oSub (r_len (ras_cons (re_ix (re_v (i := 0)) re_int) ras_nil)) re_int)) (blkOk_by (by kernel_rfl)) (fun _ => Iff.rfl) (fun _ _ _ _ _ => (rg_name (i := 2))) (fun _ _ _ _ _ => rts_nil) (fun _ _ _ _ _ => (re_cmp oLt (re_ix (re_ix (re_v (i := 0)) re_int) (re_v (i := 2))) (re_ix (re_ix (re_v (i := 0)) re_int) (re_op oAdd (re_v (i := 2)) re_int))))) ras_nil)))))), fun _ _ _ _ _ _ us hl => match us, hl with | [_], _ => rfl⟩
/-! 4 need_letters: ['value']; mut [] -/
abbrev s_need_letters : Stmt := topS 12
def b_need_letters (R R2 : Calls) : DenS := (sIf (bNot (bV (eCall R 3 (DL.gCons (eV 0) DL.gNil)))) (sRaise 1) sNext)
def d_need_letters : DefI := ⟨"need_letters", s_need_letters, ["value"], ["value"], false, b_need_letters⟩
theorem ok_need_letters : d_need_letters.Ok prg := ⟨⟨rfl, rfl, rfl, by decide +kernel, rfl, by decide +kernel, by decide +kernel⟩, fun ⟨_, g, R, k, R2, k2, lm⟩ Pg w K mg base f cdv A outer s H E Wx hP hl => by
  cases hP
  cases hl
  exact (rss_one (rs_if (rt_not (rt_val (re_call (i := 3) rfl (ras_cons (re_v (i := 0)) ras_nil)))) (rss_one (rs_raise (i := 1) rfl)) rss_nil)), fun _ _ _ _ _ _ us hl => match us, hl with | [_], _ => rfl⟩
/-! 5 is_free: ['letters', 'one', 'other']; mut [] -/
abbrev s_is_free : Stmt := topS 13
def b_is_free (R R2 : Calls) : DenS := (sRet (eOp dIn (eIf (bV (eOp dLt (eV 1) (eV 2))) (eTup (aCons (eV 1) (aCons (eV 2) aNil))) (eTup (aCons (eV 2) (aCons (eV 1) aNil)))) (eOp dIx (eV 0) (eC (.int 1)))))
def d_is_free : DefI := ⟨"is_free", s_is_free, ["letters", "one", "other"], ["letters", "one", "other"], false, b_is_free⟩
theorem ok_is_free : d_is_free.Ok prg := ⟨⟨rfl, rfl, rfl, by decide +kernel, rfl, by decide +kernel, by decide +kernel⟩, fun ⟨_, g, R, k, R2, k2, lm⟩ Pg w K mg base f cdv A outer s H E Wx hP hl => by
  cases hP
  cases hl
  exact (rss_one (rs_ret (re_cmp oIn (re_if (rt_cmp oLt (re_v (i := 1)) (re_v (i := 2))) (re_tup (ra_cons (re_v (i := 1)) (ra_cons (re_v (i := 2)) ra_nil))) (re_tup (ra_cons (re_v (i := 2)) (ra_cons (re_v (i := 1)) ra_nil)))) (re_ix (re_v (i := 0)) re_int)))), fun _ _ _ _ _ _ us hl => match us, hl with | [_, _, _], _ => rfl⟩
/-! 6 is_signed: ['letters', 'value']; mut [] -/
abbrev s_is_signed : Stmt := topS 16
def b_is_signed (R R2 : Calls) : DenS := (sRet (eAnd (eIs "int" (eV 1)) (eAnd (eNot (eIs "bool" (eV 1))) (eChain dLt dLe (eC (.int 0)) (eB dAbs (DL.gCons (eV 1) DL.gNil)) (eOp dIx (eV 0) (eC (.int 0)))))))
def d_is_signed : DefI := ⟨"is_signed", s_is_signed, ["letters", "value"], ["letters", "value"], false, b_is_signed⟩
theorem ok_is_signed : d_is_signed.Ok prg := ⟨⟨rfl, rfl, rfl, by decide +kernel, rfl, by decide +kernel, by decide +kernel⟩, fun ⟨_, g, R, k, R2, k2, lm⟩ Pg w K mg base f cdv A outer s H E Wx hP hl => by
  cases hP
  cases hl
  exact (rss_one (rs_ret (re_and (r_is_int (re_v (i := 1))) (re_and (re_not (r_is_bool (re_v (i := 1)))) (re_one (re_chain oLt oLe re_int (r_abs (ras_cons (re_v (i := 1)) ras_nil)) (re_ix (re_v (i := 0)) re_int))))))), fun _ _ _ _ _ _ us hl => match us, hl with | [_, _], _ => rfl⟩
/-! 7 is_turned_of: ['letters', 'value', 'most', 'own']; mut [] -/
abbrev s_is_turned_of : Stmt := topS 17
def b_is_turned_of (R R2 : Calls) : DenS := (sRet (eAnd (eCall R 1 (DL.gCons (eV 1) (DL.gCons (eC (.int 0)) (DL.gCons (eV 2) DL.gNil)))) (eB dAll (DL.gCons (eLc (iS (eV 1)) (tN 3) bYes (eCall R 6 (DL.gCons (eV 0) (DL.gCons (eV 3) DL.gNil)))) DL.gNil))))
def d_is_turned_of : DefI := ⟨"is_turned_of", s_is_turned_of, ["letters", "value", "most", "own"], ["letters", "value", "most"], false, b_is_turned_of⟩
theorem ok_is_turned_of : d_is_turned_of.Ok prg := ⟨⟨rfl, rfl, rfl, by decide +kernel, rfl, by decide +kernel, by decide +kernel⟩, fun ⟨_, g, R, k, R2, k2, lm⟩ Pg w K mg base f cdv A outer s H E Wx hP hl => by
  cases hP
  cases hl
  exact (rss_one (rs_ret (re_and (re_call (i := 1) rfl (ras_cons (re_v (i := 1)) (ras_cons re_int (ras_cons (re_v (i := 2)) ras_nil)))) (re_one (r_all (ras_cons (re_lc (own := [("own", 3)]) (slots := [3]) (ri_seq (re_v (i := 1))) (blkOk_by (by kernel_rfl)) (fun _ => Iff.rfl) (fun _ _ _ _ _ => (rg_name (i := 3))) (fun _ _ _ _ _ => rts_nil) (fun _ _ _ _ _ => (re_call (i := 6) rfl (ras_cons (re_v (i := 0)) (ras_cons (re_v (i := 3)) ras_nil))))) ras_nil)))))), fun _ _ _ _ _ _ us hl => match us, hl with | [_, _, _], _ => rfl⟩
/-! 8 need_turned: ['letters', 'value']; mut [] -/
abbrev s_need_turned : Stmt := topS 18
def b_need_turned (R R2 : Calls) : DenS := (sIf (bNot (bV (eCall R 7 (DL.gCons (eV 0) (DL.gCons (eV 1) (DL.gCons (eC (.int 24)) DL.gNil)))))) (sRaise 2) sNext)
def d_need_turned : DefI := ⟨"need_turned", s_need_turned, ["letters", "value"], ["letters", "value"], false, b_need_turned⟩
theorem ok_need_turned : d_need_turned.Ok prg := ⟨⟨rfl, rfl, rfl, by decide +kernel, rfl, by decide +kernel, by decide +kernel⟩, fun ⟨_, g, R, k, R2, k2, lm⟩ Pg w K mg base f cdv A outer s H E Wx hP hl => by
  cases hP
  cases hl
  exact (rss_one (rs_if (rt_not (rt_val (re_call (i := 7) rfl (ras_cons (re_v (i := 0)) (ras_cons (re_v (i := 1)) (ras_cons (re_con (List.mem_of_getElem? (i := 1) rfl)) ras_nil)))))) (rss_one (rs_raise (i := 2) rfl)) rss_nil)), fun _ _ _ _ _ _ us hl => match us, hl with | [_, _], _ => rfl⟩
/-! 9 may_pass: ['letters', 'one', 'other']; mut [] -/
abbrev s_may_pass : Stmt := topS 19
def b_may_pass (R R2 : Calls) : DenS := (sRet (eCall R 5 (DL.gCons (eV 0) (DL.gCons (eOp dSub (eB dAbs (DL.gCons (eV 1) DL.gNil)) (eC (.int 1))) (DL.gCons (eOp dSub (eB dAbs (DL.gCons (eV 2) DL.gNil)) (eC (.int 1))) DL.gNil)))))
def d_may_pass : DefI := ⟨"may_pass", s_may_pass, ["letters", "one", "other"], ["letters", "one", "other"], false, b_may_pass⟩
theorem ok_may_pass : d_may_pass.Ok prg := ⟨⟨rfl, rfl, rfl, by decide +kernel, rfl, by decide +kernel, by decide +kernel⟩, fun ⟨_, g, R, k, R2, k2, lm⟩ Pg w K mg base f cdv A outer s H E Wx hP hl => by
  cases hP
  cases hl
  exact (rss_one (rs_ret (re_call (i := 5) rfl (ras_cons (re_v (i := 0)) (ras_cons (re_op oSub (r_abs (ras_cons (re_v (i := 1)) ras_nil)) re_int) (ras_cons (re_op oSub (r_abs (ras_cons (re_v (i := 2)) ras_nil)) re_int) ras_nil)))))), fun _ _ _ _ _ _ us hl => match us, hl with | [_, _, _], _ => rfl⟩
/-! 10 key_of: ['own']; mut [] -/
abbrev s_key_of : Stmt := topS 20
def b_key_of (R R2 : Calls) : DenS := (sRet (eOp dAdd (eOp dMul (eC (.int 2)) (eB dAbs (DL.gCons (eV 0) DL.gNil))) (eIf (bV (eOp dLt (eV 0) (eC (.int 0)))) (eC (.int 1)) (eC (.int 0)))))
def d_key_of : DefI := ⟨"key_of", s_key_of, ["own"], ["own"], false, b_key_of⟩
theorem ok_key_of : d_key_of.Ok prg := ⟨⟨rfl, rfl, rfl, by decide +kernel, rfl, by decide +kernel, by decide +kernel⟩, fun ⟨_, g, R, k, R2, k2, lm⟩ Pg w K mg base f cdv A outer s H E Wx hP hl => by
  cases hP
  cases hl
  exact (rss_one (rs_ret (re_op oAdd (re_op oMul re_int (r_abs (ras_cons (re_v (i := 0)) ras_nil))) (re_if (rt_cmp oLt (re_v (i := 0)) re_int) re_int re_int)))), fun _ _ _ _ _ _ us hl => match us, hl with | [_], _ => rfl⟩
/-! 11 meeting_place: ['letters', 'left', 'own', 'at']; mut [] -/
abbrev s_meeting_place : Stmt := topS 21
def b_meeting_place (R R2 : Calls) : DenS := (sSeq (sFor (i3 (eOp dSub (eB dLen (DL.gCons (eV 1) DL.gNil)) (eC (.int 1))) (eNeg (eC (.int 1))) (eNeg (eC (.int 1)))) (tN 3) (sSeq (sIf (bV (eOp dEq (eOp dIx (eV 1) (eV 3)) (eNeg (eV 2)))) (sRet (eV 3)) sNext) (sIf (bNot (bV (eCall R 9 (DL.gCons (eV 0) (DL.gCons (eOp dIx (eV 1) (eV 3)) (DL.gCons (eV 2) DL.gNil)))))) (sRet (eC .non)) sNext))) (sRet (eC .non)))
def d_meeting_place : DefI := ⟨"meeting_place", s_meeting_place, ["letters", "left", "own", "at"], ["letters", "left", "own"], false, b_meeting_place⟩
theorem ok_meeting_place : d_meeting_place.Ok prg := ⟨⟨rfl, rfl, rfl, by decide +kernel, rfl, by decide +kernel, by decide +kernel⟩, fun ⟨_, g, R, k, R2, k2, lm⟩ Pg w K mg base f cdv A outer s H E Wx hP hl => by
  cases hP
  cases hl
  exact (rss_cons (rs_for (ri_range3 (re_op oSub (r_len (ras_cons (re_v (i := 1)) ras_nil)) re_int) (re_neg re_int) (re_neg re_int)) (rg_name (i := 3)) (rss_cons (rs_if (rt_cmp oEq (re_ix (re_v (i := 1)) (re_v (i := 3))) (re_neg (re_v (i := 2)))) (rss_one (rs_ret (re_v (i := 3)))) rss_nil) (rss_one (rs_if (rt_not (rt_val (re_call (i := 9) rfl (ras_cons (re_v (i := 0)) (ras_cons (re_ix (re_v (i := 1)) (re_v (i := 3))) (ras_cons (re_v (i := 2)) ras_nil)))))) (rss_one (rs_ret re_non)) rss_nil)))) (rss_one (rs_ret re_non))), fun _ _ _ _ _ _ us hl => match us, hl with | [_, _, _], _ => rfl⟩
/-! 12 reduced_in: ['letters', 'word', 'left', 'own', 'at']; mut [] -/
abbrev s_reduced_in : Stmt := topS 22
def b_reduced_in (R R2 : Calls) : DenS := (sSeq (sSet 2 (eLst aNil)) (sSeq (sFor (iS (eV 1)) (tN 3) (sSeq (sSet 4 (eCall R 11 (DL.gCons (eV 0) (DL.gCons (eV 2) (DL.gCons (eV 3) DL.gNil))))) (sSet 2 (eIf (bV (eOp dIsN (eV 4) (eC .non))) (eOp dAdd (eV 2) (eLst (aCons (eV 3) aNil))) (eOp dAdd (eSl (eV 2) oNone (oSome (eV 4))) (eSl (eV 2) (oSome (eOp dAdd (eV 4) (eC (.int 1)))) oNone)))))) (sRet (eV 2))))
def d_reduced_in : DefI := ⟨"reduced_in", s_reduced_in, ["letters", "word", "left", "own", "at"], ["letters", "word"], false, b_reduced_in⟩
theorem ok_reduced_in : d_reduced_in.Ok prg := ⟨⟨rfl, rfl, rfl, by decide +kernel, rfl, by decide +kernel, by decide +kernel⟩, fun ⟨_, g, R, k, R2, k2, lm⟩ Pg w K mg base f cdv A outer s H E Wx hP hl => by
  cases hP
  cases hl
  exact (rss_cons (rs_set (i := 2) (re_lst ra_nil)) (rss_cons (rs_for (ri_seq (re_v (i := 1))) (rg_name (i := 3)) (rss_cons (rs_set (i := 4) (re_call (i := 11) rfl (ras_cons (re_v (i := 0)) (ras_cons (re_v (i := 2)) (ras_cons (re_v (i := 3)) ras_nil))))) (rss_one (rs_set (i := 2) (re_if (rt_cmp oIs (re_v (i := 4)) re_non) (re_op oAdd (re_v (i := 2)) (re_lst (ra_cons (re_v (i := 3)) ra_nil))) (re_op oAdd (re_sl (re_v (i := 2)) ro_none (ro_some (re_v (i := 4)))) (re_sl (re_v (i := 2)) (ro_some (re_op oAdd (re_v (i := 4)) re_int)) ro_none))))))) (rss_one (rs_ret (re_v (i := 2)))))), fun _ _ _ _ _ _ us hl => match us, hl with | [_, _], _ => rfl⟩
/-! 13 front_places: ['letters', 'word', 'found', 'at', 'own', 'ahead']; mut ['found'] -/
abbrev s_front_places : Stmt := topS 23
def b_front_places (R R2 : Calls) : DenS := (sSeq (sSetM 2 (eLst aNil)) (sSeq (sFor (iEnum_ (eV 1)) (tT 2 (tCons (tN 3) (tCons (tN 4) tNil))) (sIf (bV (eB dAll (DL.gCons (eLc (iS (eSl (eV 1) oNone (oSome (eV 3)))) (tN 5) bYes (eCall R 9 (DL.gCons (eV 0) (DL.gCons (eV 4) (DL.gCons (eV 5) DL.gNil))))) DL.gNil))) (sApp 2 (eV 3)) sNext)) (sSeq (sFrz 2) (sRet (eV 2)))))
def d_front_places : DefI := ⟨"front_places", s_front_places, ["letters", "word", "found", "at", "own", "ahead"], ["letters", "word"], false, b_front_places⟩
theorem ok_front_places : d_front_places.Ok prg := ⟨⟨rfl, rfl, rfl, by decide +kernel, rfl, by decide +kernel, by decide +kernel⟩, fun ⟨_, g, R, k, R2, k2, lm⟩ Pg w K mg base f cdv A outer s H E Wx hP hl => by
  cases hP
  cases hl
  exact (rss_cons (rs_setM (i := 2) (re_lst ra_nil)) (rss_cons (rs_for (ri_enum (re_v (i := 1))) (rg_tup (rgs_cons (i := 3) (rgs_cons (i := 4) rgs_nil))) (rss_one (rs_if (rt_val (r_all (ras_cons (re_lc (own := [("ahead", 5)]) (slots := [5]) (ri_seq (re_sl (re_v (i := 1)) ro_none (ro_some (re_v (i := 3))))) (blkOk_by (by kernel_rfl)) (fun _ => Iff.rfl) (fun _ _ _ _ _ => (rg_name (i := 5))) (fun _ _ _ _ _ => rts_nil) (fun _ _ _ _ _ => (re_call (i := 9) rfl (ras_cons (re_v (i := 0)) (ras_cons (re_v (i := 4)) (ras_cons (re_v (i := 5)) ras_nil)))))) ras_nil))) (rss_one (rs_app (i := 2) (re_v (i := 3)))) rss_nil))) (rss_frz (rss_one (rs_ret (re_v (i := 2))))))), fun _ _ _ _ _ _ us hl => match us, hl with | [_, _], _ => rfl⟩
/-! 14 ordered_in: ['letters', 'word', 'left', 'found', 'turn', 'at', 'place']; mut ['found'] -/
abbrev s_ordered_in : Stmt := topS 24
def b_ordered_in (R R2 : Calls) : DenS := (sSeq (sParM [(false, (eB dList (DL.gCons (eV 1) DL.gNil))), (true, (eLst aNil))] [2, 3]) (sSeq (sFor (i1 (eB dLen (DL.gCons (eV 1) DL.gNil))) (tN 4) (sSeq (sSet 5 (eOp dIx (eB dMin (DL.gCons (eLc (iS (eCall R 13 (DL.gCons (eV 0) (DL.gCons (eV 2) DL.gNil)))) (tN 6) bYes (eTup (aCons (eCall R 10 (DL.gCons (eOp dIx (eV 2) (eV 6)) DL.gNil)) (aCons (eV 6) aNil)))) DL.gNil)) (eC (.int 1)))) (sSeq (sApp 3 (eOp dIx (eV 2) (eV 5))) (sSet 2 (eOp dAdd (eSl (eV 2) oNone (oSome (eV 5))) (eSl (eV 2) (oSome (eOp dAdd (eV 5) (eC (.int 1)))) oNone)))))) (sRet (eB dTuple (DL.gCons (eV 3) DL.gNil)))))
def d_ordered_in : DefI := ⟨"ordered_in", s_ordered_in, ["letters", "word", "left", "found", "turn", "at", "place"], ["letters", "word"], false, b_ordered_in⟩
theorem ok_ordered_in : d_ordered_in.Ok prg := ⟨⟨rfl, rfl, rfl, by decide +kernel, rfl, by decide +kernel, by decide +kernel⟩, fun ⟨_, g, R, k, R2, k2, lm⟩ Pg w K mg base f cdv A outer s H E Wx hP hl => by
  cases hP
  cases hl
  exact (rss_cons (rs_unpM (ram_cons (r_list (ras_cons (re_v (i := 1)) ras_nil)) (ram_cons (re_lst ra_nil) ram_nil)) (rgm_cons (i := 2) (rgm_cons (i := 3) rgm_nil))) (rss_cons (rs_for (ri_range1 (r_len (ras_cons (re_v (i := 1)) ras_nil))) (rg_name (i := 4)) (rss_cons (rs_set (i := 5) (re_ix (r_min (ras_cons (re_lc (own := [("place", 6)]) (slots := [6]) (ri_seq (re_call (i := 13) rfl (ras_cons (re_v (i := 0)) (ras_cons (re_v (i := 2)) ras_nil)))) (blkOk_by (by kernel_rfl)) (fun _ => Iff.rfl) (fun _ _ _ _ _ => (rg_name (i := 6))) (fun _ _ _ _ _ => rts_nil) (fun _ _ _ _ _ => (re_tup (ra_cons (re_call (i := 10) rfl (ras_cons (re_ix (re_v (i := 2)) (re_v (i := 6))) ras_nil)) (ra_cons (re_v (i := 6)) ra_nil))))) ras_nil)) re_int)) (rss_cons (rs_app (i := 3) (re_ix (re_v (i := 2)) (re_v (i := 5)))) (rss_one (rs_set (i := 2) (re_op oAdd (re_sl (re_v (i := 2)) ro_none (ro_some (re_v (i := 5)))) (re_sl (re_v (i := 2)) (ro_some (re_op oAdd (re_v (i := 5)) re_int)) ro_none))))))) (rss_one (rs_ret (r_tuple (ras_cons (re_v (i := 3)) ras_nil)))))), fun _ _ _ _ _ _ us hl => match us, hl with | [_, _], _ => rfl⟩
/-! 15 least_in: ['letters', 'word']; mut [] -/
abbrev s_least_in : Stmt := topS 25
def b_least_in (R R2 : Calls) : DenS := (sRet (eCall R 14 (DL.gCons (eV 0) (DL.gCons (eCall R 12 (DL.gCons (eV 0) (DL.gCons (eV 1) DL.gNil))) DL.gNil))))
def d_least_in : DefI := ⟨"least_in", s_least_in, ["letters", "word"], ["letters", "word"], false, b_least_in⟩
theorem ok_least_in : d_least_in.Ok prg := ⟨⟨rfl, rfl, rfl, by decide +kernel, rfl, by decide +kernel, by decide +kernel⟩, fun ⟨_, g, R, k, R2, k2, lm⟩ Pg w K mg base f cdv A outer s H E Wx hP hl => by
  cases hP
  cases hl
  exact (rss_one (rs_ret (re_call (i := 14) rfl (ras_cons (re_v (i := 0)) (ras_cons (re_call (i := 12) rfl (ras_cons (re_v (i := 0)) (ras_cons (re_v (i := 1)) ras_nil))) ras_nil))))), fun _ _ _ _ _ _ us hl => match us, hl with | [_, _], _ => rfl⟩
/-! 16 back_in: ['word', 'own']; mut [] -/
abbrev s_back_in : Stmt := topS 27
def b_back_in (R R2 : Calls) : DenS := (sRet (eB dTuple (DL.gCons (eLc (iS (eRev (eV 0))) (tN 1) bYes (eNeg (eV 1))) DL.gNil)))
def d_back_in : DefI := ⟨"back_in", s_back_in, ["word", "own"], ["word"], false, b_back_in⟩
theorem ok_back_in : d_back_in.Ok prg := ⟨⟨rfl, rfl, rfl, by decide +kernel, rfl, by decide +kernel, by decide +kernel⟩, fun ⟨_, g, R, k, R2, k2, lm⟩ Pg w K mg base f cdv A outer s H E Wx hP hl => by
  cases hP
  cases hl
  exact (rss_one (rs_ret (r_tuple (ras_cons (re_lc (own := [("own", 1)]) (slots := [1]) (ri_seq (re_rev (re_v (i := 0)))) (blkOk_by (by kernel_rfl)) (fun _ => Iff.rfl) (fun _ _ _ _ _ => (rg_name (i := 1))) (fun _ _ _ _ _ => rts_nil) (fun _ _ _ _ _ => (re_neg (re_v (i := 1))))) ras_nil)))), fun _ _ _ _ _ _ us hl => match us, hl with | [_], _ => rfl⟩
/-! 17 end_places: ['letters', 'word', 'found', 'at', 'own', 'behind']; mut ['found'] -/
abbrev s_end_places : Stmt := topS 29
def b_end_places (R R2 : Calls) : DenS := (sSeq (sSetM 2 (eLst aNil)) (sSeq (sFor (iEnum_ (eV 1)) (tT 2 (tCons (tN 3) (tCons (tN 4) tNil))) (sIf (bV (eB dAll (DL.gCons (eLc (iS (eSl (eV 1) (oSome (eOp dAdd (eV 3) (eC (.int 1)))) oNone)) (tN 5) bYes (eCall R 9 (DL.gCons (eV 0) (DL.gCons (eV 4) (DL.gCons (eV 5) DL.gNil))))) DL.gNil))) (sApp 2 (eV 3)) sNext)) (sSeq (sFrz 2) (sRet (eV 2)))))
def d_end_places : DefI := ⟨"end_places", s_end_places, ["letters", "word", "found", "at", "own", "behind"], ["letters", "word"], false, b_end_places⟩
theorem ok_end_places : d_end_places.Ok prg := ⟨⟨rfl, rfl, rfl, by decide +kernel, rfl, by decide +kernel, by decide +kernel⟩, fun ⟨_, g, R, k, R2, k2, lm⟩ Pg w K mg base f cdv A outer s H E Wx hP hl => by
  cases hP
  cases hl
  exact (rss_cons (rs_setM (i := 2) (re_lst ra_nil)) (rss_cons (rs_for (ri_enum (re_v (i := 1))) (rg_tup (rgs_cons (i := 3) (rgs_cons (i := 4) rgs_nil))) (rss_one (rs_if (rt_val (r_all (ras_cons (re_lc (own := [("behind", 5)]) (slots := [5]) (ri_seq (re_sl (re_v (i := 1)) (ro_some (re_op oAdd (re_v (i := 3)) re_int)) ro_none)) (blkOk_by (by kernel_rfl)) (fun _ => Iff.rfl) (fun _ _ _ _ _ => (rg_name (i := 5))) (fun _ _ _ _ _ => rts_nil) (fun _ _ _ _ _ => (re_call (i := 9) rfl (ras_cons (re_v (i := 0)) (ras_cons (re_v (i := 4)) (ras_cons (re_v (i := 5)) ras_nil)))))) ras_nil))) (rss_one (rs_app (i := 2) (re_v (i := 3)))) rss_nil))) (rss_frz (rss_one (rs_ret (re_v (i := 2))))))), fun _ _ _ _ _ _ us hl => match us, hl with | [_, _], _ => rfl⟩
/-! 18 outer_places: ['letters', 'word', 'ends', 'at', 'fitting', 'spot']; mut [] -/
abbrev s_outer_places : Stmt := topS 30
def b_outer_places (R R2 : Calls) : DenS := (sSeq (sSet 2 (eCall R 17 (DL.gCons (eV 0) (DL.gCons (eV 1) DL.gNil)))) (sSeq (sFor (iS (eCall R 13 (DL.gCons (eV 0) (DL.gCons (eV 1) DL.gNil)))) (tN 3) (sSeq (sSet 4 (eLc (iS (eV 2)) (tN 5) (bV (eOp dEq (eOp dIx (eV 1) (eV 5)) (eNeg (eOp dIx (eV 1) (eV 3))))) (eV 5))) (sIf (bV (eOp dNe (eV 4) (eLst aNil))) (sRet (eTup (aCons (eV 3) (aCons (eOp dIx (eV 4) (eC (.int 0))) aNil)))) sNext))) (sRet (eC .non))))
def d_outer_places : DefI := ⟨"outer_places", s_outer_places, ["letters", "word", "ends", "at", "fitting", "spot"], ["letters", "word"], false, b_outer_places⟩
theorem ok_outer_places : d_outer_places.Ok prg := ⟨⟨rfl, rfl, rfl, by decide +kernel, rfl, by decide +kernel, by decide +kernel⟩, fun ⟨_, g, R, k, R2, k2, lm⟩ Pg w K mg base f cdv A outer s H E Wx hP hl => by
  cases hP
  cases hl
  exact (rss_cons (rs_set (i := 2) (re_call (i := 17) rfl (ras_cons (re_v (i := 0)) (ras_cons (re_v (i := 1)) ras_nil)))) (rss_cons (rs_for (ri_seq (re_call (i := 13) rfl (ras_cons (re_v (i := 0)) (ras_cons (re_v (i := 1)) ras_nil)))) (rg_name (i := 3)) (rss_cons (rs_setLc (i := 4) (own := [("spot", 5)]) (slots := [5]) (ri_seq (re_v (i := 2))) (blkOk_by (by kernel_rfl)) (fun _ => Iff.rfl) (fun _ _ _ _ _ => (rg_name (i := 5))) (fun _ _ _ _ _ => (rts_one (rt_cmp oEq (re_ix (re_v (i := 1)) (re_v (i := 5))) (re_neg (re_ix (re_v (i := 1)) (re_v (i := 3))))))) (fun _ _ _ _ _ => (re_v (i := 5)))) (rss_one (rs_if (rt_cmp oNe (re_v (i := 4)) (re_lst ra_nil)) (rss_one (rs_ret (re_tup (ra_cons (re_v (i := 3)) (ra_cons (re_ix (re_v (i := 4)) re_int) ra_nil))))) rss_nil)))) (rss_one (rs_ret re_non)))), fun _ _ _ _ _ _ us hl => match us, hl with | [_, _], _ => rfl⟩
/-! 19 round_in: ['letters', 'word', 'left', 'ahead', 'places', 'at', 'spot', 'place', 'own']; mut [] -/
abbrev s_round_in : Stmt := topS 31
def b_round_in (R R2 : Calls) : DenS := (sSeq (sPar 2 3 (aCons (eCall R 12 (DL.gCons (eV 0) (DL.gCons (eV 1) DL.gNil))) (aCons (eTup aNil) aNil))) (sSeq (sSet 4 (eCall R 18 (DL.gCons (eV 0) (DL.gCons (eV 2) DL.gNil)))) (sSeq (sWhile 100000 (bV (eOp dNotN (eV 4) (eC .non))) (sSeq (sUnp (eV 4) (tT 2 (tCons (tN 5) (tCons (tN 6) tNil)))) (sSeq (sSet 3 (eOp dAdd (eV 3) (eTup (aCons (eOp dIx (eV 2) (eV 5)) aNil)))) (sSeq (sSet 2 (eLc (iEnum_ (eV 2)) (tT 2 (tCons (tN 7) (tCons (tN 8) tNil))) (bV (eOp dNotIn (eV 7) (eTup (aCons (eV 5) (aCons (eV 6) aNil))))) (eV 8))) (sSet 4 (eCall R 18 (DL.gCons (eV 0) (DL.gCons (eV 2) DL.gNil)))))))) (sRet (eTup (aCons (eV 3) (aCons (eCall R 14 (DL.gCons (eV 0) (DL.gCons (eV 2) DL.gNil))) aNil)))))))
def d_round_in : DefI := ⟨"round_in", s_round_in, ["letters", "word", "left", "ahead", "places", "at", "spot", "place", "own"], ["letters", "word"], false, b_round_in⟩
theorem ok_round_in : d_round_in.Ok prg := ⟨⟨rfl, rfl, rfl, by decide +kernel, rfl, by decide +kernel, by decide +kernel⟩, fun ⟨_, g, R, k, R2, k2, lm⟩ Pg w K mg base f cdv A outer s H E Wx hP hl => by
  cases hP
  cases hl
  exact (rss_cons (rs_par (i := 2) (j := 3) (ra_cons (re_call (i := 12) rfl (ras_cons (re_v (i := 0)) (ras_cons (re_v (i := 1)) ras_nil))) (ra_cons (re_tup ra_nil) ra_nil))) (rss_cons (rs_set (i := 4) (re_call (i := 18) rfl (ras_cons (re_v (i := 0)) (ras_cons (re_v (i := 2)) ras_nil)))) (rss_cons (rs_while 100000 (rt_cmp oIsNot (re_v (i := 4)) re_non) (rss_cons (rs_unp (re_v (i := 4)) (rg_tup (rgs_cons (i := 5) (rgs_cons (i := 6) rgs_nil)))) (rss_cons (rs_set (i := 3) (re_op oAdd (re_v (i := 3)) (re_tup (ra_cons (re_ix (re_v (i := 2)) (re_v (i := 5))) ra_nil)))) (rss_cons (rs_setLc (i := 2) (own := [("place", 7), ("own", 8)]) (slots := [7, 8]) (ri_enum (re_v (i := 2))) (blkOk_by (by kernel_rfl)) (fun _ => Iff.rfl) (fun _ _ _ _ _ => (rg_tup (rgs_cons (i := 7) (rgs_cons (i := 8) rgs_nil)))) (fun _ _ _ _ _ => (rts_one (rt_cmp oNotIn (re_v (i := 7)) (re_tup (ra_cons (re_v (i := 5)) (ra_cons (re_v (i := 6)) ra_nil)))))) (fun _ _ _ _ _ => (re_v (i := 8)))) (rss_one (rs_set (i := 4) (re_call (i := 18) rfl (ras_cons (re_v (i := 0)) (ras_cons (re_v (i := 2)) ras_nil))))))))) (rss_one (rs_ret (re_tup (ra_cons (re_v (i := 3)) (ra_cons (re_call (i := 14) rfl (ras_cons (re_v (i := 0)) (ras_cons (re_v (i := 2)) ras_nil))) ra_nil)))))))), fun _ _ _ _ _ _ us hl => match us, hl with | [_, _], _ => rfl⟩
/-! 20 is_round_in: ['letters', 'word']; mut [] -/
abbrev s_is_round_in : Stmt := topS 32
def b_is_round_in (R R2 : Calls) : DenS := (sRet (eAnd (eOp dEq (eB dLen (DL.gCons (eCall R 12 (DL.gCons (eV 0) (DL.gCons (eV 1) DL.gNil))) DL.gNil)) (eB dLen (DL.gCons (eV 1) DL.gNil))) (eOp dIsN (eCall R 18 (DL.gCons (eV 0) (DL.gCons (eB dList (DL.gCons (eV 1) DL.gNil)) DL.gNil))) (eC .non))))
def d_is_round_in : DefI := ⟨"is_round_in", s_is_round_in, ["letters", "word"], ["letters", "word"], false, b_is_round_in⟩
theorem ok_is_round_in : d_is_round_in.Ok prg := ⟨⟨rfl, rfl, rfl, by decide +kernel, rfl, by decide +kernel, by decide +kernel⟩, fun ⟨_, g, R, k, R2, k2, lm⟩ Pg w K mg base f cdv A outer s H E Wx hP hl => by
  cases hP
  cases hl
  exact (rss_one (rs_ret (re_and (re_cmp oEq (r_len (ras_cons (re_call (i := 12) rfl (ras_cons (re_v (i := 0)) (ras_cons (re_v (i := 1)) ras_nil))) ras_nil)) (r_len (ras_cons (re_v (i := 1)) ras_nil))) (re_one (re_cmp oIs (re_call (i := 18) rfl (ras_cons (re_v (i := 0)) (ras_cons (r_list (ras_cons (re_v (i := 1)) ras_nil)) ras_nil))) re_non))))), fun _ _ _ _ _ _ us hl => match us, hl with | [_, _], _ => rfl⟩
/-! 21 shows_round: ['letters', 'word', 'value', 'own', 'ahead', 'middle', 'led']; mut [] -/
abbrev s_shows_round : Stmt := topS 33
def b_shows_round (R R2 : Calls) : DenS := (sSeq (sIf (bOr (bNot (bV (eCall R 1 (DL.gCons (eV 2) (DL.gCons (eC (.int 2)) (DL.gCons (eC (.int 2)) DL.gNil)))))) (bNot (bV (eB dAll (DL.gCons (eLc (iS (eV 2)) (tN 3) bYes (eCall R 7 (DL.gCons (eV 0) (DL.gCons (eV 3) (DL.gCons (eC (.int 24)) DL.gNil))))) DL.gNil))))) (sRet (eC (.bl false))) sNext) (sSeq (sUnp (eV 2) (tT 2 (tCons (tN 4) (tCons (tN 5) tNil)))) (sSeq (sSet 6 (eCall R 15 (DL.gCons (eV 0) (DL.gCons (eOp dAdd (eOp dAdd (eV 4) (eV 5)) (eCall R 16 (DL.gCons (eV 4) DL.gNil))) DL.gNil)))) (sRet (eAnd (eCall R 20 (DL.gCons (eV 0) (DL.gCons (eV 5) DL.gNil))) (eOp dEq (eV 6) (eCall R 15 (DL.gCons (eV 0) (DL.gCons (eV 1) DL.gNil)))))))))
def d_shows_round : DefI := ⟨"shows_round", s_shows_round, ["letters", "word", "value", "own", "ahead", "middle", "led"], ["letters", "word", "value"], false, b_shows_round⟩
theorem ok_shows_round : d_shows_round.Ok prg := ⟨⟨rfl, rfl, rfl, by decide +kernel, rfl, by decide +kernel, by decide +kernel⟩, fun ⟨_, g, R, k, R2, k2, lm⟩ Pg w K mg base f cdv A outer s H E Wx hP hl => by
  cases hP
  cases hl
  exact (rss_cons (rs_if (RWt.rt (rw_or (rt_not (rt_val (re_call (i := 1) rfl (ras_cons (re_v (i := 2)) (ras_cons re_int (ras_cons re_int ras_nil)))))) (rw_or1 (rt_not (rt_val (r_all (ras_cons (re_lc (own := [("own", 3)]) (slots := [3]) (ri_seq (re_v (i := 2))) (blkOk_by (by kernel_rfl)) (fun _ => Iff.rfl) (fun _ _ _ _ _ => (rg_name (i := 3))) (fun _ _ _ _ _ => rts_nil) (fun _ _ _ _ _ => (re_call (i := 7) rfl (ras_cons (re_v (i := 0)) (ras_cons (re_v (i := 3)) (ras_cons (re_con (List.mem_of_getElem? (i := 1) rfl)) ras_nil)))))) ras_nil))))))) (rss_one (rs_ret re_bl)) rss_nil) (rss_cons (rs_unp (re_v (i := 2)) (rg_tup (rgs_cons (i := 4) (rgs_cons (i := 5) rgs_nil)))) (rss_cons (rs_set (i := 6) (re_call (i := 15) rfl (ras_cons (re_v (i := 0)) (ras_cons (re_op oAdd (re_op oAdd (re_v (i := 4)) (re_v (i := 5))) (re_call (i := 16) rfl (ras_cons (re_v (i := 4)) ras_nil))) ras_nil)))) (rss_one (rs_ret (re_and (re_call (i := 20) rfl (ras_cons (re_v (i := 0)) (ras_cons (re_v (i := 5)) ras_nil))) (re_one (re_cmp oEq (re_v (i := 6)) (re_call (i := 15) rfl (ras_cons (re_v (i := 0)) (ras_cons (re_v (i := 1)) ras_nil))))))))))), fun _ _ _ _ _ _ us hl => match us, hl with | [_, _, _], _ => rfl⟩
/-! 22 is_round: ['letters', 'word']; mut [] -/
abbrev s_is_round : Stmt := topS 34
def b_is_round (R R2 : Calls) : DenS := (sSeq (sExpr (eCall R 4 (DL.gCons (eV 0) DL.gNil))) (sSeq (sExpr (eCall R 8 (DL.gCons (eV 0) (DL.gCons (eV 1) DL.gNil)))) (sRet (eCall R 20 (DL.gCons (eV 0) (DL.gCons (eV 1) DL.gNil))))))
def d_is_round : DefI := ⟨"is_round", s_is_round, ["letters", "word"], ["letters", "word"], false, b_is_round⟩
theorem ok_is_round : d_is_round.Ok prg := ⟨⟨rfl, rfl, rfl, by decide +kernel, rfl, by decide +kernel, by decide +kernel⟩, fun ⟨_, g, R, k, R2, k2, lm⟩ Pg w K mg base f cdv A outer s H E Wx hP hl => by
  cases hP
  cases hl
  exact (rss_cons (rs_expr (re_call (i := 4) rfl (ras_cons (re_v (i := 0)) ras_nil))) (rss_cons (rs_expr (re_call (i := 8) rfl (ras_cons (re_v (i := 0)) (ras_cons (re_v (i := 1)) ras_nil)))) (rss_one (rs_ret (re_call (i := 20) rfl (ras_cons (re_v (i := 0)) (ras_cons (re_v (i := 1)) ras_nil))))))), fun _ _ _ _ _ _ us hl => match us, hl with | [_, _], _ => rfl⟩
/-! 23 round_of: ['letters', 'word']; mut [] -/
abbrev s_round_of : Stmt := topS 35
def b_round_of (R R2 : Calls) : DenS := (sSeq (sExpr (eCall R 4 (DL.gCons (eV 0) DL.gNil))) (sSeq (sExpr (eCall R 8 (DL.gCons (eV 0) (DL.gCons (eV 1) DL.gNil)))) (sRet (eCall R 19 (DL.gCons (eV 0) (DL.gCons (eV 1) DL.gNil))))))
def d_round_of : DefI := ⟨"round_of", s_round_of, ["letters", "word"], ["letters", "word"], false, b_round_of⟩
theorem ok_round_of : d_round_of.Ok prg := ⟨⟨rfl, rfl, rfl, by decide +kernel, rfl, by decide +kernel, by decide +kernel⟩, fun ⟨_, g, R, k, R2, k2, lm⟩ Pg w K mg base f cdv A outer s H E Wx hP hl => by
  cases hP
  cases hl
  exact (rss_cons (rs_expr (re_call (i := 4) rfl (ras_cons (re_v (i := 0)) ras_nil))) (rss_cons (rs_expr (re_call (i := 8) rfl (ras_cons (re_v (i := 0)) (ras_cons (re_v (i := 1)) ras_nil)))) (rss_one (rs_ret (re_call (i := 19) rfl (ras_cons (re_v (i := 0)) (ras_cons (re_v (i := 1)) ras_nil))))))), fun _ _ _ _ _ _ us hl => match us, hl with | [_, _], _ => rfl⟩
/-! 24 is_round_of: ['letters', 'word', 'value']; mut [] -/
abbrev s_is_round_of : Stmt := topS 36
def b_is_round_of (R R2 : Calls) : DenS := (sSeq (sExpr (eCall R 4 (DL.gCons (eV 0) DL.gNil))) (sSeq (sExpr (eCall R 8 (DL.gCons (eV 0) (DL.gCons (eV 1) DL.gNil)))) (sRet (eCall R 21 (DL.gCons (eV 0) (DL.gCons (eV 1) (DL.gCons (eV 2) DL.gNil)))))))
def d_is_round_of : DefI := ⟨"is_round_of", s_is_round_of, ["letters", "word", "value"], ["letters", "word", "value"], false, b_is_round_of⟩
theorem ok_is_round_of : d_is_round_of.Ok prg := ⟨⟨rfl, rfl, rfl, by decide +kernel, rfl, by decide +kernel, by decide +kernel⟩, fun ⟨_, g, R, k, R2, k2, lm⟩ Pg w K mg base f cdv A outer s H E Wx hP hl => by
  cases hP
  cases hl
  exact (rss_cons (rs_expr (re_call (i := 4) rfl (ras_cons (re_v (i := 0)) ras_nil))) (rss_cons (rs_expr (re_call (i := 8) rfl (ras_cons (re_v (i := 0)) (ras_cons (re_v (i := 1)) ras_nil)))) (rss_one (rs_ret (re_call (i := 21) rfl (ras_cons (re_v (i := 0)) (ras_cons (re_v (i := 1)) (ras_cons (re_v (i := 2)) ras_nil)))))))), fun _ _ _ _ _ _ us hl => match us, hl with | [_, _, _], _ => rfl⟩
/-! 25 round_length: ['letters', 'word']; mut [] -/
abbrev s_round_length : Stmt := topS 37
def b_round_length (R R2 : Calls) : DenS := (sSeq (sExpr (eCall R 4 (DL.gCons (eV 0) DL.gNil))) (sSeq (sExpr (eCall R 8 (DL.gCons (eV 0) (DL.gCons (eV 1) DL.gNil)))) (sRet (eB dLen (DL.gCons (eOp dIx (eCall R 19 (DL.gCons (eV 0) (DL.gCons (eV 1) DL.gNil))) (eC (.int 1))) DL.gNil)))))
def d_round_length : DefI := ⟨"round_length", s_round_length, ["letters", "word"], ["letters", "word"], false, b_round_length⟩
theorem ok_round_length : d_round_length.Ok prg := ⟨⟨rfl, rfl, rfl, by decide +kernel, rfl, by decide +kernel, by decide +kernel⟩, fun ⟨_, g, R, k, R2, k2, lm⟩ Pg w K mg base f cdv A outer s H E Wx hP hl => by
  cases hP
  cases hl
  exact (rss_cons (rs_expr (re_call (i := 4) rfl (ras_cons (re_v (i := 0)) ras_nil))) (rss_cons (rs_expr (re_call (i := 8) rfl (ras_cons (re_v (i := 0)) (ras_cons (re_v (i := 1)) ras_nil)))) (rss_one (rs_ret (r_len (ras_cons (re_ix (re_call (i := 19) rfl (ras_cons (re_v (i := 0)) (ras_cons (re_v (i := 1)) ras_nil))) re_int) ras_nil)))))), fun _ _ _ _ _ _ us hl => match us, hl with | [_, _], _ => rfl⟩
/-! 26 _law_cup: ['script', 'cell']; mut [] -/
abbrev s__law_cup : Stmt := topS 39
def b__law_cup (R R2 : Calls) : DenS := (sSeq (sSet 1 (eB dAbs (DL.gCons (eOp dIx (eOp dAdd (eB dList (DL.gCons (eV 0) DL.gNil)) (eLst (aCons (eC (.int 0)) aNil))) (eC (.int 0))) DL.gNil))) (sRet (eLst (aCons (eIf (bV (eOp dGe (eV 1) (eOp dPow (eC (.int 10)) (eC (.int 18))))) (eOp dFdiv (eV 1) (eC (.int 331))) (eC (.int 0))) (aCons (eOp dMod (eB dInt (DL.gCons (eOp dAdd (eOp dMul (eV 1) (eC (.int 1103))) (eC (.int 101747))) DL.gNil)) (eC (.int 1048576))) aNil)))))
def d__law_cup : DefI := ⟨"_law_cup", s__law_cup, ["script", "cell"], ["script"], false, b__law_cup⟩
theorem ok__law_cup : d__law_cup.Ok prg := ⟨⟨rfl, rfl, rfl, by decide +kernel, rfl, by decide +kernel, by decide +kernel⟩, fun ⟨_, g, R, k, R2, k2, lm⟩ Pg w K mg base f cdv A outer s H E Wx hP hl => by
  cases hP
  cases hl
  exact (rss_cons (rs_set (i := 1) (r_abs (ras_cons (re_ix (re_op oAdd (r_list (ras_cons (re_v (i := 0)) ras_nil)) (re_lst (ra_cons re_int ra_nil))) re_int) ras_nil))) (rss_one (rs_ret (re_lst (ra_cons (re_if (rt_cmp oGe (re_v (i := 1)) (re_op oPow re_int re_int)) (re_op oFdiv (re_v (i := 1)) re_int) re_int) (ra_cons (re_op oMod (r_int (ras_cons (re_op oAdd (re_op oMul (re_v (i := 1)) re_int) re_int) ras_nil)) re_int) ra_nil)))))), fun _ _ _ _ _ _ us hl => match us, hl with | [_], _ => rfl⟩
/-! 27 _law_roll: ['cup', 'many', 'found']; mut ['cup'] -/
abbrev s__law_roll : Stmt := topS 40
def b__law_roll (R R2 : Calls) : DenS := (sSeq (sIf (bV (eOp dGt (eOp dIx (eV 0) (eC (.int 0))) (eC (.int 0)))) (sSeq (sSet 2 (eOp dMod (eB dInt (DL.gCons (eOp dIx (eV 0) (eC (.int 0))) DL.gNil)) (eV 1))) (sSeq (sSub 0 (eOp dFdiv (eOp dIx (eV 0) (eC (.int 0))) (eV 1)) (eC (.int 0))) (sRet (eV 2)))) sNext) (sSeq (sSub 0 (eOp dMod (eB dInt (DL.gCons (eOp dAdd (eOp dMul (eOp dIx (eV 0) (eC (.int 1))) (eC (.int 25349))) (eC (.int 52501))) DL.gNil)) (eC (.int 1048576))) (eC (.int 1))) (sRet (eOp dMod (eB dInt (DL.gCons (eOp dFdiv (eOp dIx (eV 0) (eC (.int 1))) (eC (.int 151))) DL.gNil)) (eV 1)))))
def d__law_roll : DefI := ⟨"_law_roll", s__law_roll, ["cup", "many", "found"], ["cup", "many"], false, b__law_roll⟩
theorem ok__law_roll : d__law_roll.Ok prg := ⟨⟨rfl, rfl, rfl, by decide +kernel, rfl, by decide +kernel, by decide +kernel⟩, fun ⟨_, g, R, k, R2, k2, lm⟩ Pg w K mg base f cdv A outer s H E Wx hP hl => by
  cases hP
  cases hl
  exact (rss_cons (rs_if (rt_cmp oGt (re_ix (re_v (i := 0)) re_int) re_int) (rss_cons (rs_set (i := 2) (re_op oMod (r_int (ras_cons (re_ix (re_v (i := 0)) re_int) ras_nil)) (re_v (i := 1)))) (rss_cons (rs_sub (i := 0) (re_op oFdiv (re_ix (re_v (i := 0)) re_int) (re_v (i := 1))) re_int) (rss_one (rs_ret (re_v (i := 2)))))) rss_nil) (rss_cons (rs_sub (i := 0) (re_op oMod (r_int (ras_cons (re_op oAdd (re_op oMul (re_ix (re_v (i := 0)) re_int) re_int) re_int) ras_nil)) re_int) re_int) (rss_one (rs_ret (re_op oMod (r_int (ras_cons (re_op oFdiv (re_ix (re_v (i := 0)) re_int) re_int) ras_nil)) (re_v (i := 1))))))), fun _ _ _ _ _ _ us hl => match us, hl with | [_, _], _ => rfl⟩
/-! 28 _law_some: ['cup', 'things']; mut ['cup'] -/
abbrev s__law_some : Stmt := topS 41
def b__law_some (R R2 : Calls) : DenS := (sRet (eOp dIx (eV 1) (eCall R 27 (DL.gCons (eV 0) (DL.gCons (eB dLen (DL.gCons (eV 1) DL.gNil)) DL.gNil)))))
def d__law_some : DefI := ⟨"_law_some", s__law_some, ["cup", "things"], ["cup", "things"], false, b__law_some⟩
theorem ok__law_some : d__law_some.Ok prg := ⟨⟨rfl, rfl, rfl, by decide +kernel, rfl, by decide +kernel, by decide +kernel⟩, fun ⟨_, g, R, k, R2, k2, lm⟩ Pg w K mg base f cdv A outer s H E Wx hP hl => by
  cases hP
  cases hl
  exact (rss_one (rs_ret (re_ix (re_v (i := 1)) (re_call (i := 27) rfl (ras_cons (re_v (i := 0)) (ras_cons (r_len (ras_cons (re_v (i := 1)) ras_nil)) ras_nil)))))), fun _ _ _ _ _ _ us hl => match us, hl with | [_, _], _ => rfl⟩
/-! 29 _law_sort: ['value']; mut [] -/
abbrev s__law_sort : Stmt := topS 42
def b__law_sort (R R2 : Calls) : DenS := (sSeq (sIf (bOr (bV (eOp dIsN (eV 0) (eC .non))) (bV (eIs "bool" (eV 0)))) (sRet (eIf (bV (eOp dIsN (eV 0) (eC .non))) (eC (.int 0)) (eC (.int 1)))) sNext) (sSeq (sIf (bOr (bV (eIs "int" (eV 0))) (bV (eIs "str" (eV 0)))) (sRet (eIf (bV (eIs "int" (eV 0))) (eC (.int 2)) (eC (.int 3)))) sNext) (sRet (eIf (bV (eIs "tuple" (eV 0))) (eC (.int 4)) (eIf (bV (eIs "list" (eV 0))) (eC (.int 5)) (eC (.int 6)))))))
def d__law_sort : DefI := ⟨"_law_sort", s__law_sort, ["value"], ["value"], false, b__law_sort⟩
theorem ok__law_sort : d__law_sort.Ok prg := ⟨⟨rfl, rfl, rfl, by decide +kernel, rfl, by decide +kernel, by decide +kernel⟩, fun ⟨_, g, R, k, R2, k2, lm⟩ Pg w K mg base f cdv A outer s H E Wx hP hl => by
  cases hP
  cases hl
  exact (rss_cons (rs_if (RWt.rt (rw_or (rt_cmp oIs (re_v (i := 0)) re_non) (rw_or1 (rt_val (r_is_bool (re_v (i := 0))))))) (rss_one (rs_ret (re_if (rt_cmp oIs (re_v (i := 0)) re_non) re_int re_int))) rss_nil) (rss_cons (rs_if (RWt.rt (rw_or (rt_val (r_is_int (re_v (i := 0)))) (rw_or1 (rt_val (r_is_str (re_v (i := 0))))))) (rss_one (rs_ret (re_if (rt_val (r_is_int (re_v (i := 0)))) re_int re_int))) rss_nil) (rss_one (rs_ret (re_if (rt_val (r_is_tuple (re_v (i := 0)))) re_int (re_if (rt_val (r_is_list (re_v (i := 0)))) re_int re_int)))))), fun _ _ _ _ _ _ us hl => match us, hl with | [_], _ => rfl⟩
/-! 30 _law_like: ['one', 'other', 'sort', 'first', 'second']; mut [] -/
abbrev s__law_like : Stmt := topS 43
def b__law_like (R R2 : Calls) : DenS := (sSeq (sSet 2 (eCall R 29 (DL.gCons (eV 1) DL.gNil))) (sSeq (sIf (bOr (bV (eOp dNe (eCall R 29 (DL.gCons (eV 0) DL.gNil)) (eV 2))) (bV (eOp dEq (eV 2) (eC (.int 6))))) (sRet (eC (.bl false))) sNext) (sSeq (sIf (bV (eOp dIn (eV 2) (eTup (aCons (eC (.int 4)) (aCons (eC (.int 5)) aNil))))) (sRet (eAnd (eOp dEq (eB dLen (DL.gCons (eV 0) DL.gNil)) (eB dLen (DL.gCons (eV 1) DL.gNil))) (eOp dEq (eLc (iZip_ (eV 0) (eV 1)) (tT 2 (tCons (tN 3) (tCons (tN 4) tNil))) (bNot (bV (eCall R 30 (DL.gCons (eV 3) (DL.gCons (eV 4) DL.gNil))))) (eC (.int 1))) (eLst aNil)))) sNext) (sRet (eOp dEq (eV 0) (eV 1))))))
def d__law_like : DefI := ⟨"_law_like", s__law_like, ["one", "other", "sort", "first", "second"], ["one", "other"], false, b__law_like⟩
theorem ok__law_like : d__law_like.Ok prg := ⟨⟨rfl, rfl, rfl, by decide +kernel, rfl, by decide +kernel, by decide +kernel⟩, fun ⟨_, g, R, k, R2, k2, lm⟩ Pg w K mg base f cdv A outer s H E Wx hP hl => by
  cases hP
  cases hl
  exact (rss_cons (rs_set (i := 2) (re_call (i := 29) rfl (ras_cons (re_v (i := 1)) ras_nil))) (rss_cons (rs_if (RWt.rt (rw_or (rt_cmp oNe (re_call (i := 29) rfl (ras_cons (re_v (i := 0)) ras_nil)) (re_v (i := 2))) (rw_or1 (rt_cmp oEq (re_v (i := 2)) re_int)))) (rss_one (rs_ret re_bl)) rss_nil) (rss_cons (rs_if (rt_cmp oIn (re_v (i := 2)) (re_tup (ra_cons re_int (ra_cons re_int ra_nil)))) (rss_one (rs_ret (re_and (re_cmp oEq (r_len (ras_cons (re_v (i := 0)) ras_nil)) (r_len (ras_cons (re_v (i := 1)) ras_nil))) (re_one (re_cmp oEq (re_lc (own := [("first", 3), ("second", 4)]) (slots := [3, 4]) (ri_zip (re_v (i := 0)) (re_v (i := 1))) (blkOk_by (by kernel_rfl)) (fun _ => Iff.rfl) (fun _ _ _ _ _ => (rg_tup (rgs_cons (i := 3) (rgs_cons (i := 4) rgs_nil)))) (fun _ _ _ _ _ => (rts_one (rt_not (rt_val (re_call (i := 30) rfl (ras_cons (re_v (i := 3)) (ras_cons (re_v (i := 4)) ras_nil))))))) (fun _ _ _ _ _ => re_int)) (re_lst ra_nil)))))) rss_nil) (rss_one (rs_ret (re_cmp oEq (re_v (i := 0)) (re_v (i := 1)))))))), fun _ _ _ _ _ _ us hl => match us, hl with | [_, _], _ => rfl⟩
/-! 31 _law_letters: ['cup', 'many', 'pairs', 'one', 'other']; mut ['cup'] -/
abbrev s__law_letters : Stmt := topS 44
def b__law_letters (R R2 : Calls) : DenS := (sSeq (sSet 1 (eOp dAdd (eC (.int 1)) (eCall R 27 (DL.gCons (eV 0) (DL.gCons (eC (.int 4)) DL.gNil))))) (sSeq (sSet 2 (eLst aNil)) (sSeq (sFor (i1 (eV 1)) (tN 3) (sSet 2 (eOp dAdd (eV 2) (eLc (i2 (eOp dAdd (eV 3) (eC (.int 1))) (eV 1)) (tN 4) (bV (eOp dEq (eCall R 27 (DL.gCons (eV 0) (DL.gCons (eC (.int 2)) DL.gNil))) (eC (.int 0)))) (eTup (aCons (eV 3) (aCons (eV 4) aNil))))))) (sRet (eTup (aCons (eV 1) (aCons (eB dTuple (DL.gCons (eV 2) DL.gNil)) aNil)))))))
def d__law_letters : DefI := ⟨"_law_letters", s__law_letters, ["cup", "many", "pairs", "one", "other"], ["cup"], false, b__law_letters⟩
theorem ok__law_letters : d__law_letters.Ok prg := ⟨⟨rfl, rfl, rfl, by decide +kernel, rfl, by decide +kernel, by decide +kernel⟩, fun ⟨_, g, R, k, R2, k2, lm⟩ Pg w K mg base f cdv A outer s H E Wx hP hl => by
  cases hP
  cases hl
  exact (rss_cons (rs_set (i := 1) (re_op oAdd re_int (re_call (i := 27) rfl (ras_cons (re_v (i := 0)) (ras_cons re_int ras_nil))))) (rss_cons (rs_set (i := 2) (re_lst ra_nil)) (rss_cons (rs_for (ri_range1 (re_v (i := 1))) (rg_name (i := 3)) (rss_one (rs_set (i := 2) (re_op oAdd (re_v (i := 2)) (re_lc (own := [("other", 4)]) (slots := [4]) (ri_range2 (re_op oAdd (re_v (i := 3)) re_int) (re_v (i := 1))) (blkOk_by (by kernel_rfl)) (fun _ => Iff.rfl) (fun _ _ _ _ _ => (rg_name (i := 4))) (fun _ _ _ _ _ => (rts_one (rt_cmp oEq (re_call (i := 27) rfl (ras_cons (re_v (i := 0)) (ras_cons re_int ras_nil))) re_int))) (fun _ _ _ _ _ => (re_tup (ra_cons (re_v (i := 3)) (ra_cons (re_v (i := 4)) ra_nil))))))))) (rss_one (rs_ret (re_tup (ra_cons (re_v (i := 1)) (ra_cons (r_tuple (ras_cons (re_v (i := 2)) ras_nil)) ra_nil)))))))), fun _ _ _ _ _ _ us hl => match us, hl with | [_], _ => rfl⟩
/-! 32 _law_word: ['cup', 'letters', 'most', 'found', 'turn']; mut ['cup', 'found'] -/
abbrev s__law_word : Stmt := topS 45
def b__law_word (R R2 : Calls) : DenS := (sSeq (sSetM 3 (eLst aNil)) (sSeq (sFor (i1 (eCall R 27 (DL.gCons (eV 0) (DL.gCons (eOp dAdd (eV 2) (eC (.int 1))) DL.gNil)))) (tN 4) (sApp 3 (eOp dMul (eOp dAdd (eC (.int 1)) (eCall R 27 (DL.gCons (eV 0) (DL.gCons (eOp dIx (eV 1) (eC (.int 0))) DL.gNil)))) (eCall R 28 (DL.gCons (eV 0) (DL.gCons (eLst (aCons (eC (.int 1)) (aCons (eC (.int 1)) (aCons (eNeg (eC (.int 1))) aNil)))) DL.gNil)))))) (sRet (eB dTuple (DL.gCons (eV 3) DL.gNil)))))
def d__law_word : DefI := ⟨"_law_word", s__law_word, ["cup", "letters", "most", "found", "turn"], ["cup", "letters", "most"], false, b__law_word⟩
theorem ok__law_word : d__law_word.Ok prg := ⟨⟨rfl, rfl, rfl, by decide +kernel, rfl, by decide +kernel, by decide +kernel⟩, fun ⟨_, g, R, k, R2, k2, lm⟩ Pg w K mg base f cdv A outer s H E Wx hP hl => by
  cases hP
  cases hl
  exact (rss_cons (rs_setM (i := 3) (re_lst ra_nil)) (rss_cons (rs_for (ri_range1 (re_call (i := 27) rfl (ras_cons (re_v (i := 0)) (ras_cons (re_op oAdd (re_v (i := 2)) re_int) ras_nil)))) (rg_name (i := 4)) (rss_one (rs_app (i := 3) (re_op oMul (re_op oAdd re_int (re_call (i := 27) rfl (ras_cons (re_v (i := 0)) (ras_cons (re_ix (re_v (i := 1)) re_int) ras_nil)))) (re_call (i := 28) rfl (ras_cons (re_v (i := 0)) (ras_cons (re_lst (ra_cons re_int (ra_cons re_int (ra_cons (re_neg re_int) ra_nil)))) ras_nil))))))) (rss_one (rs_ret (r_tuple (ras_cons (re_v (i := 3)) ras_nil)))))), fun _ _ _ _ _ _ us hl => match us, hl with | [_, _, _], _ => rfl⟩
/-! 33 _law_free: ['letters', 'one', 'other', 'pair']; mut [] -/
abbrev s__law_free : Stmt := topS 46
def b__law_free (R R2 : Calls) : DenS := (sSeq (sSet 3 (eTup (aCons (eOp dSub (eB dMin (DL.gCons (eB dAbs (DL.gCons (eV 1) DL.gNil)) (DL.gCons (eB dAbs (DL.gCons (eV 2) DL.gNil)) DL.gNil))) (eC (.int 1))) (aCons (eOp dSub (eB dMax (DL.gCons (eB dAbs (DL.gCons (eV 1) DL.gNil)) (DL.gCons (eB dAbs (DL.gCons (eV 2) DL.gNil)) DL.gNil))) (eC (.int 1))) aNil)))) (sRet (eOp dIn (eV 3) (eOp dIx (eV 0) (eC (.int 1))))))
def d__law_free : DefI := ⟨"_law_free", s__law_free, ["letters", "one", "other", "pair"], ["letters", "one", "other"], false, b__law_free⟩
theorem ok__law_free : d__law_free.Ok prg := ⟨⟨rfl, rfl, rfl, by decide +kernel, rfl, by decide +kernel, by decide +kernel⟩, fun ⟨_, g, R, k, R2, k2, lm⟩ Pg w K mg base f cdv A outer s H E Wx hP hl => by
  cases hP
  cases hl
  exact (rss_cons (rs_set (i := 3) (re_tup (ra_cons (re_op oSub (r_min (ras_cons (r_abs (ras_cons (re_v (i := 1)) ras_nil)) (ras_cons (r_abs (ras_cons (re_v (i := 2)) ras_nil)) ras_nil))) re_int) (ra_cons (re_op oSub (r_max (ras_cons (r_abs (ras_cons (re_v (i := 1)) ras_nil)) (ras_cons (r_abs (ras_cons (re_v (i := 2)) ras_nil)) ras_nil))) re_int) ra_nil)))) (rss_one (rs_ret (re_cmp oIn (re_v (i := 3)) (re_ix (re_v (i := 0)) re_int))))), fun _ _ _ _ _ _ us hl => match us, hl with | [_, _, _], _ => rfl⟩
/-! 34 _law_class: ['letters', 'word', 'found', 'fresh', 'turn', 'later', 'own', 'at', 'further']; mut ['found', 'later'] -/
abbrev s__law_class : Stmt := topS 47
def b__law_class (R R2 : Calls) : DenS := (sSeq (sParN [(itD1 (eV 1) (eC (.bl true))), (itE false (eLst (aCons (eV 1) aNil)))] [2, 3]) (sSeq (sFor (i1 (eOp dMul (eB dLen (DL.gCons (eV 1) DL.gNil)) (eB dLen (DL.gCons (eV 1) DL.gNil)))) (tN 4) (sSeq (sSetM 5 (eLst aNil)) (sSeq (sFor (iS (eV 3)) (tN 6) (sFor (i1 (eOp dSub (eB dLen (DL.gCons (eV 6) DL.gNil)) (eC (.int 1)))) (tN 7) (sSeq (sSet 8 (eOp dAdd (eOp dAdd (eSl (eV 6) oNone (oSome (eV 7))) (eTup (aCons (eOp dIx (eV 6) (eOp dAdd (eV 7) (eC (.int 1)))) (aCons (eOp dIx (eV 6) (eV 7)) aNil)))) (eSl (eV 6) (oSome (eOp dAdd (eV 7) (eC (.int 2)))) oNone))) (sIf (bAnd (bV (eCall R 33 (DL.gCons (eV 0) (DL.gCons (eOp dIx (eV 6) (eV 7)) (DL.gCons (eOp dIx (eV 6) (eOp dAdd (eV 7) (eC (.int 1)))) DL.gNil))))) (bV (eOp dNotInC (eV 8) (eV 2)))) (sSeq (sPutD 2 (eC (.bl true)) (eV 8)) (sApp 5 (eV 8))) sNext)))) (sSeq (sFrz 5) (sSet 3 (eV 5)))))) (sRet (eB dListK (DL.gCons (eV 2) DL.gNil)))))
def d__law_class : DefI := ⟨"_law_class", s__law_class, ["letters", "word", "found", "fresh", "turn", "later", "own", "at", "further"], ["letters", "word"], false, b__law_class⟩
theorem ok__law_class : d__law_class.Ok prg := ⟨⟨rfl, rfl, rfl, by decide +kernel, rfl, by decide +kernel, by decide +kernel⟩, fun ⟨_, g, R, k, R2, k2, lm⟩ Pg w K mg base f cdv A outer s H E Wx hP hl => by
  cases hP
  cases hl
  exact (rss_cons (rs_parN (i := 2) (j := 3) (ran_cons (rit_d1 (re_v (i := 1)) re_bl) (ran_cons (rit_e (b := false) (re_lst (ra_cons (re_v (i := 1)) ra_nil))) ran_nil))) (rss_cons (rs_for (ri_range1 (re_op oMul (r_len (ras_cons (re_v (i := 1)) ras_nil)) (r_len (ras_cons (re_v (i := 1)) ras_nil)))) (rg_name (i := 4)) (rss_cons (rs_setM (i := 5) (re_lst ra_nil)) (rss_cons (rs_for (ri_seq (re_v (i := 3))) (rg_name (i := 6)) (rss_one (rs_for (ri_range1 (re_op oSub (r_len (ras_cons (re_v (i := 6)) ras_nil)) re_int)) (rg_name (i := 7)) (rss_cons (rs_set (i := 8) (re_op oAdd (re_op oAdd (re_sl (re_v (i := 6)) ro_none (ro_some (re_v (i := 7)))) (re_tup (ra_cons (re_ix (re_v (i := 6)) (re_op oAdd (re_v (i := 7)) re_int)) (ra_cons (re_ix (re_v (i := 6)) (re_v (i := 7))) ra_nil)))) (re_sl (re_v (i := 6)) (ro_some (re_op oAdd (re_v (i := 7)) re_int)) ro_none))) (rss_one (rs_if (RWt.rt (rw_and (rt_val (re_call (i := 33) rfl (ras_cons (re_v (i := 0)) (ras_cons (re_ix (re_v (i := 6)) (re_v (i := 7))) (ras_cons (re_ix (re_v (i := 6)) (re_op oAdd (re_v (i := 7)) re_int)) ras_nil))))) (rw_and1 (rt_cmp oNotInC (re_v (i := 8)) (re_v (i := 2)))))) (rss_cons (rs_putD (i := 2) re_bl (re_v (i := 8))) (rss_one (rs_app (i := 5) (re_v (i := 8))))) rss_nil)))))) (rss_frz (rss_one (rs_set (i := 3) (re_v (i := 5)))))))) (rss_one (rs_ret (r_listK (ras_cons (re_v (i := 2)) ras_nil)))))), fun _ _ _ _ _ _ us hl => match us, hl with | [_, _], _ => rfl⟩
/-! 35 _law_order: ['word', 'own']; mut [] -/
abbrev s__law_order : Stmt := topS 48
def b__law_order (R R2 : Calls) : DenS := (sRet (eB dTuple (DL.gCons (eLc (iS (eV 0)) (tN 1) bYes (eOp dSub (eOp dMul (eC (.int 2)) (eB dAbs (DL.gCons (eV 1) DL.gNil))) (eIf (bV (eOp dGt (eV 1) (eC (.int 0)))) (eC (.int 1)) (eC (.int 0))))) DL.gNil)))
def d__law_order : DefI := ⟨"_law_order", s__law_order, ["word", "own"], ["word"], false, b__law_order⟩
theorem ok__law_order : d__law_order.Ok prg := ⟨⟨rfl, rfl, rfl, by decide +kernel, rfl, by decide +kernel, by decide +kernel⟩, fun ⟨_, g, R, k, R2, k2, lm⟩ Pg w K mg base f cdv A outer s H E Wx hP hl => by
  cases hP
  cases hl
  exact (rss_one (rs_ret (r_tuple (ras_cons (re_lc (own := [("own", 1)]) (slots := [1]) (ri_seq (re_v (i := 0))) (blkOk_by (by kernel_rfl)) (fun _ => Iff.rfl) (fun _ _ _ _ _ => (rg_name (i := 1))) (fun _ _ _ _ _ => rts_nil) (fun _ _ _ _ _ => (re_op oSub (re_op oMul re_int (r_abs (ras_cons (re_v (i := 1)) ras_nil))) (re_if (rt_cmp oGt (re_v (i := 1)) re_int) re_int re_int)))) ras_nil)))), fun _ _ _ _ _ _ us hl => match us, hl with | [_], _ => rfl⟩
/-! 36 _law_reduced: ['letters', 'word', 'turn', 'fitting', 'own', 'at']; mut [] -/
abbrev s__law_reduced : Stmt := topS 49
def b__law_reduced (R R2 : Calls) : DenS := (sSeq (sFor (i1 (eB dLen (DL.gCons (eV 1) DL.gNil))) (tN 2) (sSeq (sSet 3 (eLst aNil)) (sSeq (sFor (iS (eCall R 34 (DL.gCons (eV 0) (DL.gCons (eV 1) DL.gNil)))) (tN 4) (sSet 3 (eOp dAdd (eV 3) (eLc (i1 (eOp dSub (eB dLen (DL.gCons (eV 4) DL.gNil)) (eC (.int 1)))) (tN 5) (bV (eOp dEq (eOp dIx (eV 4) (eV 5)) (eNeg (eOp dIx (eV 4) (eOp dAdd (eV 5) (eC (.int 1))))))) (eOp dAdd (eSl (eV 4) oNone (oSome (eV 5))) (eSl (eV 4) (oSome (eOp dAdd (eV 5) (eC (.int 2)))) oNone)))))) (sSet 1 (eIf (bV (eOp dNe (eV 3) (eLst aNil))) (eOp dIx (eV 3) (eC (.int 0))) (eV 1)))))) (sRet (eV 1)))
def d__law_reduced : DefI := ⟨"_law_reduced", s__law_reduced, ["letters", "word", "turn", "fitting", "own", "at"], ["letters", "word"], false, b__law_reduced⟩
theorem ok__law_reduced : d__law_reduced.Ok prg := ⟨⟨rfl, rfl, rfl, by decide +kernel, rfl, by decide +kernel, by decide +kernel⟩, fun ⟨_, g, R, k, R2, k2, lm⟩ Pg w K mg base f cdv A outer s H E Wx hP hl => by
  cases hP
  cases hl
  exact (rss_cons (rs_for (ri_range1 (r_len (ras_cons (re_v (i := 1)) ras_nil))) (rg_name (i := 2)) (rss_cons (rs_set (i := 3) (re_lst ra_nil)) (rss_cons (rs_for (ri_seq (re_call (i := 34) rfl (ras_cons (re_v (i := 0)) (ras_cons (re_v (i := 1)) ras_nil)))) (rg_name (i := 4)) (rss_one (rs_set (i := 3) (re_op oAdd (re_v (i := 3)) (re_lc (own := [("at", 5)]) (slots := [5]) (ri_range1 (re_op oSub (r_len (ras_cons (re_v (i := 4)) ras_nil)) re_int)) (blkOk_by (by kernel_rfl)) (fun _ => Iff.rfl) (fun _ _ _ _ _ => (rg_name (i := 5))) (fun _ _ _ _ _ => (rts_one (rt_cmp oEq (re_ix (re_v (i := 4)) (re_v (i := 5))) (re_neg (re_ix (re_v (i := 4)) (re_op oAdd (re_v (i := 5)) re_int)))))) (fun _ _ _ _ _ => (re_op oAdd (re_sl (re_v (i := 4)) ro_none (ro_some (re_v (i := 5)))) (re_sl (re_v (i := 4)) (ro_some (re_op oAdd (re_v (i := 5)) re_int)) ro_none)))))))) (rss_one (rs_set (i := 1) (re_if (rt_cmp oNe (re_v (i := 3)) (re_lst ra_nil)) (re_ix (re_v (i := 3)) re_int) (re_v (i := 1)))))))) (rss_one (rs_ret (re_v (i := 1))))), fun _ _ _ _ _ _ us hl => match us, hl with | [_, _], _ => rfl⟩
/-! 37 _law_least: ['letters', 'word', 'own', 'order', 'far']; mut [] -/
abbrev s__law_least : Stmt := topS 50
def b__law_least (R R2 : Calls) : DenS := (sSeq (sSet 2 (eCall R 34 (DL.gCons (eV 0) (DL.gCons (eCall R 36 (DL.gCons (eV 0) (DL.gCons (eV 1) DL.gNil))) DL.gNil)))) (sRet (eOp dIx (eLc (iS (eB dSorted (DL.gCons (eLc (iS (eV 2)) (tN 4) bYes (eTup (aCons (eCall R 35 (DL.gCons (eV 4) DL.gNil)) (aCons (eV 4) aNil)))) DL.gNil))) (tT 2 (tCons (tN 3) (tCons (tN 4) tNil))) bYes (eV 4)) (eC (.int 0)))))
def d__law_least : DefI := ⟨"_law_least", s__law_least, ["letters", "word", "own", "order", "far"], ["letters", "word"], false, b__law_least⟩
theorem ok__law_least : d__law_least.Ok prg := ⟨⟨rfl, rfl, rfl, by decide +kernel, rfl, by decide +kernel, by decide +kernel⟩, fun ⟨_, g, R, k, R2, k2, lm⟩ Pg w K mg base f cdv A outer s H E Wx hP hl => by
  cases hP
  cases hl
  exact (rss_cons (rs_set (i := 2) (re_call (i := 34) rfl (ras_cons (re_v (i := 0)) (ras_cons (re_call (i := 36) rfl (ras_cons (re_v (i := 0)) (ras_cons (re_v (i := 1)) ras_nil))) ras_nil)))) (rss_one (rs_ret (re_ix (re_lc (own := [("order", 3), ("far", 4)]) (slots := [3, 4]) (ri_seq (r_sorted (ras_cons (re_lc (own := [("far", 4)]) (slots := [4]) (ri_seq (re_v (i := 2))) (blkOk_by (by kernel_rfl)) (fun _ => Iff.rfl) (fun _ _ _ _ _ => (rg_name (i := 4))) (fun _ _ _ _ _ => rts_nil) (fun _ _ _ _ _ => (re_tup (ra_cons (re_call (i := 35) rfl (ras_cons (re_v (i := 4)) ras_nil)) (ra_cons (re_v (i := 4)) ra_nil))))) ras_nil))) (blkOk_by (by kernel_rfl)) (fun _ => Iff.rfl) (fun _ _ _ _ _ => (rg_tup (rgs_cons (i := 3) (rgs_cons (i := 4) rgs_nil)))) (fun _ _ _ _ _ => rts_nil) (fun _ _ _ _ _ => (re_v (i := 4)))) re_int)))), fun _ _ _ _ _ _ us hl => match us, hl with | [_, _], _ => rfl⟩
/-! 38 _law_error: ['call', 'e', 'pairs', 'words', 'word', 'good']; mut [] -/
abbrev s__law_error : Stmt := topS 51
def b__law_error (R R2 : Calls) : DenS := (fun _ _ => .no)
def d__law_error : DefI := ⟨"_law_error", s__law_error, ["call", "e", "pairs", "words", "word", "good"], ["call"], false, b__law_error⟩
theorem ok__law_error : d__law_error.Ok prg := ⟨⟨rfl, rfl, rfl, by decide +kernel, rfl, by decide +kernel, by decide +kernel⟩, fun ⟨_, g, R, k, R2, k2, lm⟩ Pg w K mg base f cdv A outer s H E Wx hP hl => by
  cases hP
  cases hl
  exact rss_no, fun _ _ _ _ _ _ us hl => match us, hl with | [_], _ => rfl⟩
/-! 39 _law_no_letters: []; mut [] -/
abbrev s__law_no_letters : Stmt := topS 52
def b__law_no_letters (R R2 : Calls) : DenS := (sRet (eLst (aCons (eC .non) (aCons (eC (.int 0)) (aCons (eTup aNil) (aCons (eTup (aCons (eC (.int 0)) (aCons (eTup aNil) aNil))) (aCons (eTup (aCons (eC (.int 9)) (aCons (eTup aNil) aNil))) (aCons (eTup (aCons (eC (.int 2)) aNil)) (aCons (eLst (aCons (eC (.int 2)) (aCons (eTup aNil) aNil))) (aCons (eTup (aCons (eC (.int 2)) (aCons (eLst (aCons (eTup (aCons (eC (.int 0)) (aCons (eC (.int 1)) aNil))) aNil)) aNil))) (aCons (eTup (aCons (eC (.int 2)) (aCons (eTup (aCons (eTup (aCons (eC (.int 1)) (aCons (eC (.int 0)) aNil))) aNil)) aNil))) (aCons (eTup (aCons (eC (.int 2)) (aCons (eTup (aCons (eTup (aCons (eC (.int 0)) (aCons (eC (.int 2)) aNil))) aNil)) aNil))) (aCons (eTup (aCons (eC (.int 3)) (aCons (eTup (aCons (eTup (aCons (eC (.int 0)) (aCons (eC (.int 2)) aNil))) (aCons (eTup (aCons (eC (.int 0)) (aCons (eC (.int 1)) aNil))) aNil))) aNil))) (aCons (eTup (aCons (eC (.int 2)) (aCons (eTup (aCons (eTup (aCons (eC (.int 0)) (aCons (eC (.int 0)) aNil))) aNil)) aNil))) (aCons (eTup (aCons (eC (.bl true)) (aCons (eTup aNil) aNil))) (aCons (eTup (aCons (eC (.int 2)) (aCons (eTup (aCons (eTup (aCons (eC (.int 0)) (aCons (eC (.int 1)) aNil))) (aCons (eTup (aCons (eC (.int 0)) (aCons (eC (.int 1)) aNil))) aNil))) aNil))) aNil))))))))))))))))
def d__law_no_letters : DefI := ⟨"_law_no_letters", s__law_no_letters, [], [], false, b__law_no_letters⟩
theorem ok__law_no_letters : d__law_no_letters.Ok prg := ⟨⟨rfl, rfl, rfl, by decide +kernel, rfl, by decide +kernel, by decide +kernel⟩, fun ⟨_, g, R, k, R2, k2, lm⟩ Pg w K mg base f cdv A outer s H E Wx hP hl => by
  cases hP
  cases hl
  exact (rss_one (rs_ret (re_lst (ra_cons re_non (ra_cons re_int (ra_cons (re_tup ra_nil) (ra_cons (re_tup (ra_cons re_int (ra_cons (re_tup ra_nil) ra_nil))) (ra_cons (re_tup (ra_cons re_int (ra_cons (re_tup ra_nil) ra_nil))) (ra_cons (re_tup (ra_cons re_int ra_nil)) (ra_cons (re_lst (ra_cons re_int (ra_cons (re_tup ra_nil) ra_nil))) (ra_cons (re_tup (ra_cons re_int (ra_cons (re_lst (ra_cons (re_tup (ra_cons re_int (ra_cons re_int ra_nil))) ra_nil)) ra_nil))) (ra_cons (re_tup (ra_cons re_int (ra_cons (re_tup (ra_cons (re_tup (ra_cons re_int (ra_cons re_int ra_nil))) ra_nil)) ra_nil))) (ra_cons (re_tup (ra_cons re_int (ra_cons (re_tup (ra_cons (re_tup (ra_cons re_int (ra_cons re_int ra_nil))) ra_nil)) ra_nil))) (ra_cons (re_tup (ra_cons re_int (ra_cons (re_tup (ra_cons (re_tup (ra_cons re_int (ra_cons re_int ra_nil))) (ra_cons (re_tup (ra_cons re_int (ra_cons re_int ra_nil))) ra_nil))) ra_nil))) (ra_cons (re_tup (ra_cons re_int (ra_cons (re_tup (ra_cons (re_tup (ra_cons re_int (ra_cons re_int ra_nil))) ra_nil)) ra_nil))) (ra_cons (re_tup (ra_cons re_bl (ra_cons (re_tup ra_nil) ra_nil))) (ra_cons (re_tup (ra_cons re_int (ra_cons (re_tup (ra_cons (re_tup (ra_cons re_int (ra_cons re_int ra_nil))) (ra_cons (re_tup (ra_cons re_int (ra_cons re_int ra_nil))) ra_nil))) ra_nil))) ra_nil))))))))))))))))), fun _ _ _ _ _ _ us hl => match us, hl with | [], _ => rfl⟩
/-! 40 _law_no_words: []; mut [] -/
abbrev s__law_no_words : Stmt := topS 53
def b__law_no_words (R R2 : Calls) : DenS := (sRet (eLst (aCons (eC .non) (aCons (eC (.int 0)) (aCons (eLst (aCons (eC (.int 1)) aNil)) (aCons (eTup (aCons (eC (.int 0)) aNil)) (aCons (eTup (aCons (eC (.int 4)) aNil)) (aCons (eTup (aCons (eNeg (eC (.int 4))) aNil)) (aCons (eTup (aCons (eC (.bl true)) aNil)) (aCons (eTup (aCons (eC (.int 1)) (aCons (eC (.str "2")) aNil))) (aCons (eTup (aCons (eTup (aCons (eC (.int 1)) aNil)) aNil)) (aCons (eC (.str "1")) (aCons (eOp dMul (eTup (aCons (eC (.int 1)) aNil)) (eC (.int 25))) (aCons (eTup (aCons (eC .non) aNil)) aNil))))))))))))))
def d__law_no_words : DefI := ⟨"_law_no_words", s__law_no_words, [], [], false, b__law_no_words⟩
theorem ok__law_no_words : d__law_no_words.Ok prg := ⟨⟨rfl, rfl, rfl, by decide +kernel, rfl, by decide +kernel, by decide +kernel⟩, fun ⟨_, g, R, k, R2, k2, lm⟩ Pg w K mg base f cdv A outer s H E Wx hP hl => by
  cases hP
  cases hl
  exact (rss_one (rs_ret (re_lst (ra_cons re_non (ra_cons re_int (ra_cons (re_lst (ra_cons re_int ra_nil)) (ra_cons (re_tup (ra_cons re_int ra_nil)) (ra_cons (re_tup (ra_cons re_int ra_nil)) (ra_cons (re_tup (ra_cons (re_neg re_int) ra_nil)) (ra_cons (re_tup (ra_cons re_bl ra_nil)) (ra_cons (re_tup (ra_cons re_int (ra_cons re_str ra_nil))) (ra_cons (re_tup (ra_cons (re_tup (ra_cons re_int ra_nil)) ra_nil)) (ra_cons re_str (ra_cons (re_op oMul (re_tup (ra_cons re_int ra_nil)) re_int) (ra_cons (re_tup (ra_cons re_non ra_nil)) ra_nil))))))))))))))), fun _ _ _ _ _ _ us hl => match us, hl with | [], _ => rfl⟩
/-! 41 _law_is_round: ['letters', 'word', 'own']; mut [] -/
abbrev s__law_is_round : Stmt := topS 54
def b__law_is_round (R R2 : Calls) : DenS := (sSeq (sIf (bV (eOp dNe (eB dLen (DL.gCons (eCall R 36 (DL.gCons (eV 0) (DL.gCons (eV 1) DL.gNil))) DL.gNil)) (eB dLen (DL.gCons (eV 1) DL.gNil)))) (sRet (eC (.bl false))) sNext) (sRet (eOp dEq (eLc (iS (eCall R 34 (DL.gCons (eV 0) (DL.gCons (eV 1) DL.gNil)))) (tN 2) (bAnd (bV (eOp dGt (eB dLen (DL.gCons (eV 2) DL.gNil)) (eC (.int 1)))) (bV (eOp dEq (eOp dIx (eV 2) (eC (.int 0))) (eNeg (eOp dIx (eV 2) (eNeg (eC (.int 1)))))))) (eV 2)) (eLst aNil))))
def d__law_is_round : DefI := ⟨"_law_is_round", s__law_is_round, ["letters", "word", "own"], ["letters", "word"], false, b__law_is_round⟩
theorem ok__law_is_round : d__law_is_round.Ok prg := ⟨⟨rfl, rfl, rfl, by decide +kernel, rfl, by decide +kernel, by decide +kernel⟩, fun ⟨_, g, R, k, R2, k2, lm⟩ Pg w K mg base f cdv A outer s H E Wx hP hl => by
  cases hP
  cases hl
  exact (rss_cons (rs_if (rt_cmp oNe (r_len (ras_cons (re_call (i := 36) rfl (ras_cons (re_v (i := 0)) (ras_cons (re_v (i := 1)) ras_nil))) ras_nil)) (r_len (ras_cons (re_v (i := 1)) ras_nil))) (rss_one (rs_ret re_bl)) rss_nil) (rss_one (rs_ret (re_cmp oEq (re_lc (own := [("own", 2)]) (slots := [2]) (ri_seq (re_call (i := 34) rfl (ras_cons (re_v (i := 0)) (ras_cons (re_v (i := 1)) ras_nil)))) (blkOk_by (by kernel_rfl)) (fun _ => Iff.rfl) (fun _ _ _ _ _ => (rg_name (i := 2))) (fun _ _ _ _ _ => (rts_one (RWt.rt (rw_and (rt_cmp oGt (r_len (ras_cons (re_v (i := 2)) ras_nil)) re_int) (rw_and1 (rt_cmp oEq (re_ix (re_v (i := 2)) re_int) (re_neg (re_ix (re_v (i := 2)) (re_neg re_int))))))))) (fun _ _ _ _ _ => (re_v (i := 2)))) (re_lst ra_nil))))), fun _ _ _ _ _ _ us hl => match us, hl with | [_, _], _ => rfl⟩
/-! 42 _law_back: ['word', 'own']; mut [] -/
abbrev s__law_back : Stmt := topS 55
def b__law_back (R R2 : Calls) : DenS := (sRet (eB dTuple (DL.gCons (eLc (iS (eRev (eV 0))) (tN 1) bYes (eNeg (eV 1))) DL.gNil)))
def d__law_back : DefI := ⟨"_law_back", s__law_back, ["word", "own"], ["word"], false, b__law_back⟩
theorem ok__law_back : d__law_back.Ok prg := ⟨⟨rfl, rfl, rfl, by decide +kernel, rfl, by decide +kernel, by decide +kernel⟩, fun ⟨_, g, R, k, R2, k2, lm⟩ Pg w K mg base f cdv A outer s H E Wx hP hl => by
  cases hP
  cases hl
  exact (rss_one (rs_ret (r_tuple (ras_cons (re_lc (own := [("own", 1)]) (slots := [1]) (ri_seq (re_rev (re_v (i := 0)))) (blkOk_by (by kernel_rfl)) (fun _ => Iff.rfl) (fun _ _ _ _ _ => (rg_name (i := 1))) (fun _ _ _ _ _ => rts_nil) (fun _ _ _ _ _ => (re_neg (re_v (i := 1))))) ras_nil)))), fun _ _ _ _ _ _ us hl => match us, hl with | [_], _ => rfl⟩
/-! 43 _law_quick: ['letters', 'word', 'left', 'turn', 'pair', 'at', 'own', 'spot', 'far', 'place', 'found', 'front', 'best']; mut ['found'] -/
abbrev s__law_quick : Stmt := topS 56
def b__law_quick (R R2 : Calls) : DenS := (sSeq (sSet 2 (eB dList (DL.gCons (eV 1) DL.gNil))) (sSeq (sFor (i1 (eB dLen (DL.gCons (eV 1) DL.gNil))) (tN 3) (sSeq (sSet 4 (eC .non)) (sSeq (sFor (iEnum_ (eV 2)) (tT 2 (tCons (tN 5) (tCons (tN 6) tNil))) (sFor (i2 (eOp dAdd (eV 5) (eC (.int 1))) (eB dLen (DL.gCons (eV 2) DL.gNil))) (tN 7) (sIf (bAnd (bV (eOp dIsN (eV 4) (eC .non))) (bAnd (bV (eOp dEq (eOp dIx (eV 2) (eV 7)) (eNeg (eV 6)))) (bV (eOp dEq (eLc (iS (eSl (eV 2) (oSome (eOp dAdd (eV 5) (eC (.int 1)))) (oSome (eV 7)))) (tN 8) (bNot (bV (eCall R 33 (DL.gCons (eV 0) (DL.gCons (eV 6) (DL.gCons (eV 8) DL.gNil)))))) (eV 8)) (eLst aNil))))) (sSet 4 (eTup (aCons (eV 5) (aCons (eV 7) aNil)))) sNext))) (sSet 2 (eIf (bV (eOp dNotN (eV 4) (eC .non))) (eLc (iEnum_ (eV 2)) (tT 2 (tCons (tN 9) (tCons (tN 6) tNil))) (bV (eOp dNotIn (eV 9) (eV 4))) (eV 6)) (eV 2)))))) (sSeq (sSetM 10 (eLst aNil)) (sSeq (sFor (i1 (eB dLen (DL.gCons (eV 2) DL.gNil))) (tN 3) (sSeq (sSet 11 (eLc (iEnum_ (eV 2)) (tT 2 (tCons (tN 5) (tCons (tN 6) tNil))) (bV (eOp dEq (eLc (iS (eSl (eV 2) oNone (oSome (eV 5)))) (tN 8) (bNot (bV (eCall R 33 (DL.gCons (eV 0) (DL.gCons (eV 6) (DL.gCons (eV 8) DL.gNil)))))) (eV 8)) (eLst aNil))) (eV 5))) (sSeq (sSet 12 (eOp dIx (eB dMin (DL.gCons (eLc (iS (eV 11)) (tN 5) bYes (eTup (aCons (eCall R 35 (DL.gCons (eTup (aCons (eOp dIx (eV 2) (eV 5)) aNil)) DL.gNil)) (aCons (eV 5) aNil)))) DL.gNil)) (eC (.int 1)))) (sSeq (sApp 10 (eOp dIx (eV 2) (eV 12))) (sSet 2 (eOp dAdd (eSl (eV 2) oNone (oSome (eV 12))) (eSl (eV 2) (oSome (eOp dAdd (eV 12) (eC (.int 1)))) oNone))))))) (sRet (eB dTuple (DL.gCons (eV 10) DL.gNil)))))))
def d__law_quick : DefI := ⟨"_law_quick", s__law_quick, ["letters", "word", "left", "turn", "pair", "at", "own", "spot", "far", "place", "found", "front", "best"], ["letters", "word"], false, b__law_quick⟩
theorem ok__law_quick : d__law_quick.Ok prg := ⟨⟨rfl, rfl, rfl, by decide +kernel, rfl, by decide +kernel, by decide +kernel⟩, fun ⟨_, g, R, k, R2, k2, lm⟩ Pg w K mg base f cdv A outer s H E Wx hP hl => by
  cases hP
  cases hl
  exact (rss_cons (rs_set (i := 2) (r_list (ras_cons (re_v (i := 1)) ras_nil))) (rss_cons (rs_for (ri_range1 (r_len (ras_cons (re_v (i := 1)) ras_nil))) (rg_name (i := 3)) (rss_cons (rs_set (i := 4) re_non) (rss_cons (rs_for (ri_enum (re_v (i := 2))) (rg_tup (rgs_cons (i := 5) (rgs_cons (i := 6) rgs_nil))) (rss_one (rs_for (ri_range2 (re_op oAdd (re_v (i := 5)) re_int) (r_len (ras_cons (re_v (i := 2)) ras_nil))) (rg_name (i := 7)) (rss_one (rs_if (RWt.rt (rw_and (rt_cmp oIs (re_v (i := 4)) re_non) (rw_and (rt_cmp oEq (re_ix (re_v (i := 2)) (re_v (i := 7))) (re_neg (re_v (i := 6)))) (rw_and1 (rt_cmp oEq (re_lc (own := [("far", 8)]) (slots := [8]) (ri_seq (re_sl (re_v (i := 2)) (ro_some (re_op oAdd (re_v (i := 5)) re_int)) (ro_some (re_v (i := 7))))) (blkOk_by (by kernel_rfl)) (fun _ => Iff.rfl) (fun _ _ _ _ _ => (rg_name (i := 8))) (fun _ _ _ _ _ => (rts_one (rt_not (rt_val (re_call (i := 33) rfl (ras_cons (re_v (i := 0)) (ras_cons (re_v (i := 6)) (ras_cons (re_v (i := 8)) ras_nil)))))))) (fun _ _ _ _ _ => (re_v (i := 8)))) (re_lst ra_nil)))))) (rss_one (rs_set (i := 4) (re_tup (ra_cons (re_v (i := 5)) (ra_cons (re_v (i := 7)) ra_nil))))) rss_nil))))) (rss_one (rs_set (i := 2) (re_if (rt_cmp oIsNot (re_v (i := 4)) re_non) (re_lc (own := [("place", 9), ("own", 6)]) (slots := [9, 6]) (ri_enum (re_v (i := 2))) (blkOk_by (by kernel_rfl)) (fun _ => Iff.rfl) (fun _ _ _ _ _ => (rg_tup (rgs_cons (i := 9) (rgs_cons (i := 6) rgs_nil)))) (fun _ _ _ _ _ => (rts_one (rt_cmp oNotIn (re_v (i := 9)) (re_v (i := 4))))) (fun _ _ _ _ _ => (re_v (i := 6)))) (re_v (i := 2)))))))) (rss_cons (rs_setM (i := 10) (re_lst ra_nil)) (rss_cons (rs_for (ri_range1 (r_len (ras_cons (re_v (i := 2)) ras_nil))) (rg_name (i := 3)) (rss_cons (rs_setLc (i := 11) (own := [("at", 5), ("own", 6)]) (slots := [5, 6]) (ri_enum (re_v (i := 2))) (blkOk_by (by kernel_rfl)) (fun _ => Iff.rfl) (fun _ _ _ _ _ => (rg_tup (rgs_cons (i := 5) (rgs_cons (i := 6) rgs_nil)))) (fun _ _ _ _ _ => (rts_one (rt_cmp oEq (re_lc (own := [("far", 8)]) (slots := [8]) (ri_seq (re_sl (re_v (i := 2)) ro_none (ro_some (re_v (i := 5))))) (blkOk_by (by kernel_rfl)) (fun _ => Iff.rfl) (fun _ _ _ _ _ => (rg_name (i := 8))) (fun _ _ _ _ _ => (rts_one (rt_not (rt_val (re_call (i := 33) rfl (ras_cons (re_v (i := 0)) (ras_cons (re_v (i := 6)) (ras_cons (re_v (i := 8)) ras_nil)))))))) (fun _ _ _ _ _ => (re_v (i := 8)))) (re_lst ra_nil)))) (fun _ _ _ _ _ => (re_v (i := 5)))) (rss_cons (rs_set (i := 12) (re_ix (r_min (ras_cons (re_lc (own := [("at", 5)]) (slots := [5]) (ri_seq (re_v (i := 11))) (blkOk_by (by kernel_rfl)) (fun _ => Iff.rfl) (fun _ _ _ _ _ => (rg_name (i := 5))) (fun _ _ _ _ _ => rts_nil) (fun _ _ _ _ _ => (re_tup (ra_cons (re_call (i := 35) rfl (ras_cons (re_tup (ra_cons (re_ix (re_v (i := 2)) (re_v (i := 5))) ra_nil)) ras_nil)) (ra_cons (re_v (i := 5)) ra_nil))))) ras_nil)) re_int)) (rss_cons (rs_app (i := 10) (re_ix (re_v (i := 2)) (re_v (i := 12)))) (rss_one (rs_set (i := 2) (re_op oAdd (re_sl (re_v (i := 2)) ro_none (ro_some (re_v (i := 12)))) (re_sl (re_v (i := 2)) (ro_some (re_op oAdd (re_v (i := 12)) re_int)) ro_none)))))))) (rss_one (rs_ret (r_tuple (ras_cons (re_v (i := 10)) ras_nil)))))))), fun _ _ _ _ _ _ us hl => match us, hl with | [_, _], _ => rfl⟩
/-! 44 _law_word_right: ['cup', 'letters', 'word', 'heard', 'ahead', 'middle', 'own', 'by', 'far', 'pair', 'good', 'odds', 'odd']; mut ['cup'] -/
abbrev s__law_word_right : Stmt := topS 57
def b__law_word_right (R R2 : Calls) : DenS := (sSeq (sSet 3 (eCall R 23 (DL.gCons (eV 1) (DL.gCons (eV 2) DL.gNil)))) (sSeq (sIf (bOr (bNot (bV (eIs "tuple" (eV 3)))) (bOr (bV (eOp dNe (eB dLen (DL.gCons (eV 3) DL.gNil)) (eC (.int 2)))) (bV (eOp dNe (eCall R 22 (DL.gCons (eV 1) (DL.gCons (eV 2) DL.gNil))) (eCall R 41 (DL.gCons (eV 1) (DL.gCons (eV 2) DL.gNil))))))) (sRet (eC (.bl false))) sNext) (sSeq (sUnp (eV 3) (tT 2 (tCons (tN 4) (tCons (tN 5) tNil)))) (sSeq (sIf (bOr (bNot (bV (eIs "tuple" (eV 4)))) (bOr (bV (eOp dGt (eB dLen (DL.gCons (eV 4) DL.gNil)) (eC (.int 24)))) (bV (eOp dNe (eLc (iS (eV 4)) (tN 6) (bOr (bV (eOp dNe (eCall R 29 (DL.gCons (eV 6) DL.gNil)) (eC (.int 2)))) (bNot (bV (eChain dLt dLe (eC (.int 0)) (eB dAbs (DL.gCons (eV 6) DL.gNil)) (eOp dIx (eV 1) (eC (.int 0))))))) (eV 6)) (eLst aNil))))) (sRet (eC (.bl false))) sNext) (sSeq (sIf (bOr (bNot (bV (eCall R 41 (DL.gCons (eV 1) (DL.gCons (eV 5) DL.gNil))))) (bV (eOp dNe (eCall R 43 (DL.gCons (eV 1) (DL.gCons (eOp dAdd (eOp dAdd (eV 4) (eV 5)) (eCall R 42 (DL.gCons (eV 4) DL.gNil))) DL.gNil))) (eCall R 37 (DL.gCons (eV 1) (DL.gCons (eV 2) DL.gNil)))))) (sRet (eC (.bl false))) sNext) (sSeq (sIf (bNot (bV (eCall R 30 (DL.gCons (eLst (aCons (eCall R 24 (DL.gCons (eV 1) (DL.gCons (eV 2) (DL.gCons (eV 3) DL.gNil)))) (aCons (eCall R 25 (DL.gCons (eV 1) (DL.gCons (eV 2) DL.gNil))) aNil))) (DL.gCons (eLst (aCons (eC (.bl true)) (aCons (eB dLen (DL.gCons (eV 5) DL.gNil)) aNil))) DL.gNil))))) (sRet (eC (.bl false))) sNext) (sSeq (sIf (bV (eOp dGt (eB dLen (DL.gCons (eV 4) DL.gNil)) (eC (.int 20)))) (sRet (eC (.bl true))) sNext) (sSeq (sSet 7 (eCall R 32 (DL.gCons (eV 0) (DL.gCons (eV 1) (DL.gCons (eC (.int 2)) DL.gNil))))) (sSeq (sSet 8 (eOp dAdd (eOp dAdd (eV 7) (eV 2)) (eCall R 42 (DL.gCons (eV 7) DL.gNil)))) (sSeq (sIf (bOr (bV (eOp dNe (eCall R 25 (DL.gCons (eV 1) (DL.gCons (eV 8) DL.gNil))) (eB dLen (DL.gCons (eV 5) DL.gNil)))) (bOr (bV (eOp dNotN (eCall R 24 (DL.gCons (eV 1) (DL.gCons (eV 8) (DL.gCons (eTup (aCons (eOp dAdd (eV 7) (eV 4)) (aCons (eV 5) aNil))) DL.gNil)))) (eC (.bl true)))) (bV (eOp dNe (eCall R 25 (DL.gCons (eV 1) (DL.gCons (eCall R 42 (DL.gCons (eV 2) DL.gNil)) DL.gNil))) (eB dLen (DL.gCons (eV 5) DL.gNil)))))) (sRet (eC (.bl false))) sNext) (sSeq (sSet 6 (eOp dAdd (eC (.int 1)) (eCall R 27 (DL.gCons (eV 0) (DL.gCons (eOp dIx (eV 1) (eC (.int 0))) DL.gNil))))) (sSeq (sFor (iS (eTup (aCons (eTup (aCons (eOp dAdd (eV 4) (eTup (aCons (eV 6) aNil))) (aCons (eV 5) aNil))) (aCons (eTup (aCons (eV 4) (aCons (eOp dAdd (eSl (eV 5) (oSome (eC (.int 1))) oNone) (eSl (eV 5) oNone (oSome (eC (.int 1))))) aNil))) (aCons (eTup (aCons (eCall R 42 (DL.gCons (eV 4) DL.gNil)) (aCons (eV 5) aNil))) (aCons (eTup (aCons (eV 4) (aCons (eOp dAdd (eV 5) (eTup (aCons (eV 6) aNil))) aNil))) (aCons (eTup (aCons (eTup aNil) (aCons (eV 5) aNil))) (aCons (eTup (aCons (eV 4) (aCons (eV 2) aNil))) aNil)))))))) (tN 9) (sSeq (sSet 10 (eAnd (eCall R 41 (DL.gCons (eV 1) (DL.gCons (eOp dIx (eV 9) (eC (.int 1))) DL.gNil))) (eOp dEq (eCall R 43 (DL.gCons (eV 1) (DL.gCons (eOp dAdd (eOp dAdd (eOp dIx (eV 9) (eC (.int 0))) (eOp dIx (eV 9) (eC (.int 1)))) (eCall R 42 (DL.gCons (eOp dIx (eV 9) (eC (.int 0))) DL.gNil))) DL.gNil))) (eCall R 37 (DL.gCons (eV 1) (DL.gCons (eV 2) DL.gNil)))))) (sIf (bV (eOp dNe (eCall R 24 (DL.gCons (eV 1) (DL.gCons (eV 2) (DL.gCons (eV 9) DL.gNil)))) (eV 10))) (sRet (eC (.bl false))) sNext))) (sSeq (sSet 11 (eLst (aCons (eC .non) (aCons (eTup aNil) (aCons (eC (.int 0)) (aCons (eLst (aCons (eV 4) (aCons (eV 5) aNil))) (aCons (eTup (aCons (eV 4) aNil)) (aCons (eTup (aCons (eV 4) (aCons (eV 5) (aCons (eTup aNil) aNil)))) aNil)))))))) (sSeq (sSet 11 (eOp dAdd (eV 11) (eLst (aCons (eTup (aCons (eB dList (DL.gCons (eV 4) DL.gNil)) (aCons (eV 5) aNil))) (aCons (eTup (aCons (eV 4) (aCons (eB dList (DL.gCons (eV 5) DL.gNil)) aNil))) (aCons (eTup (aCons (eV 4) (aCons (eC .non) aNil))) (aCons (eTup (aCons (eTup (aCons (eC (.int 0)) aNil)) (aCons (eV 5) aNil))) (aCons (eTup (aCons (eV 4) (aCons (eTup (aCons (eOp dAdd (eOp dIx (eV 1) (eC (.int 0))) (eC (.int 1))) aNil)) aNil))) (aCons (eTup (aCons (eOp dAdd (eV 4) (eTup (aCons (eC (.bl true)) aNil))) (aCons (eV 5) aNil))) aNil))))))))) (sRet (eOp dEq (eLc (iS (eV 11)) (tN 12) (bV (eOp dNotN (eCall R 24 (DL.gCons (eV 1) (DL.gCons (eV 2) (DL.gCons (eV 12) DL.gNil)))) (eC (.bl false)))) (eV 12)) (eLst aNil)))))))))))))))))
def d__law_word_right : DefI := ⟨"_law_word_right", s__law_word_right, ["cup", "letters", "word", "heard", "ahead", "middle", "own", "by", "far", "pair", "good", "odds", "odd"], ["cup", "letters", "word"], false, b__law_word_right⟩
theorem ok__law_word_right : d__law_word_right.Ok prg := ⟨⟨rfl, rfl, rfl, by decide +kernel, rfl, by decide +kernel, by decide +kernel⟩, fun ⟨_, g, R, k, R2, k2, lm⟩ Pg w K mg base f cdv A outer s H E Wx hP hl => by
  cases hP
  cases hl
  exact (rss_cons (rs_set (i := 3) (re_call (i := 23) rfl (ras_cons (re_v (i := 1)) (ras_cons (re_v (i := 2)) ras_nil)))) (rss_cons (rs_if (RWt.rt (rw_or (rt_not (rt_val (r_is_tuple (re_v (i := 3))))) (rw_or (rt_cmp oNe (r_len (ras_cons (re_v (i := 3)) ras_nil)) re_int) (rw_or1 (rt_cmp oNe (re_call (i := 22) rfl (ras_cons (re_v (i := 1)) (ras_cons (re_v (i := 2)) ras_nil))) (re_call (i := 41) rfl (ras_cons (re_v (i := 1)) (ras_cons (re_v (i := 2)) ras_nil)))))))) (rss_one (rs_ret re_bl)) rss_nil) (rss_cons (rs_unp (re_v (i := 3)) (rg_tup (rgs_cons (i := 4) (rgs_cons (i := 5) rgs_nil)))) (rss_cons (rs_if (RWt.rt (rw_or (rt_not (rt_val (r_is_tuple (re_v (i := 4))))) (rw_or (rt_cmp oGt (r_len (ras_cons (re_v (i := 4)) ras_nil)) re_int) (rw_or1 (rt_cmp oNe (re_lc (own := [("own", 6)]) (slots := [6]) (ri_seq (re_v (i := 4))) (blkOk_by (by kernel_rfl)) (fun _ => Iff.rfl) (fun _ _ _ _ _ => (rg_name (i := 6))) (fun _ _ _ _ _ => (rts_one (RWt.rt (rw_or (rt_cmp oNe (re_call (i := 29) rfl (ras_cons (re_v (i := 6)) ras_nil)) re_int) (rw_or1 (rt_not (rt_chain oLt oLe re_int (r_abs (ras_cons (re_v (i := 6)) ras_nil)) (re_ix (re_v (i := 1)) re_int)))))))) (fun _ _ _ _ _ => (re_v (i := 6)))) (re_lst ra_nil)))))) (rss_one (rs_ret re_bl)) rss_nil) (rss_cons (rs_if (RWt.rt (rw_or (rt_not (rt_val (re_call (i := 41) rfl (ras_cons (re_v (i := 1)) (ras_cons (re_v (i := 5)) ras_nil))))) (rw_or1 (rt_cmp oNe (re_call (i := 43) rfl (ras_cons (re_v (i := 1)) (ras_cons (re_op oAdd (re_op oAdd (re_v (i := 4)) (re_v (i := 5))) (re_call (i := 42) rfl (ras_cons (re_v (i := 4)) ras_nil))) ras_nil))) (re_call (i := 37) rfl (ras_cons (re_v (i := 1)) (ras_cons (re_v (i := 2)) ras_nil))))))) (rss_one (rs_ret re_bl)) rss_nil) (rss_cons (rs_if (rt_not (rt_val (re_call (i := 30) rfl (ras_cons (re_lst (ra_cons (re_call (i := 24) rfl (ras_cons (re_v (i := 1)) (ras_cons (re_v (i := 2)) (ras_cons (re_v (i := 3)) ras_nil)))) (ra_cons (re_call (i := 25) rfl (ras_cons (re_v (i := 1)) (ras_cons (re_v (i := 2)) ras_nil))) ra_nil))) (ras_cons (re_lst (ra_cons re_bl (ra_cons (r_len (ras_cons (re_v (i := 5)) ras_nil)) ra_nil))) ras_nil))))) (rss_one (rs_ret re_bl)) rss_nil) (rss_cons (rs_if (rt_cmp oGt (r_len (ras_cons (re_v (i := 4)) ras_nil)) re_int) (rss_one (rs_ret re_bl)) rss_nil) (rss_cons (rs_set (i := 7) (re_call (i := 32) rfl (ras_cons (re_v (i := 0)) (ras_cons (re_v (i := 1)) (ras_cons re_int ras_nil))))) (rss_cons (rs_set (i := 8) (re_op oAdd (re_op oAdd (re_v (i := 7)) (re_v (i := 2))) (re_call (i := 42) rfl (ras_cons (re_v (i := 7)) ras_nil)))) (rss_cons (rs_if (RWt.rt (rw_or (rt_cmp oNe (re_call (i := 25) rfl (ras_cons (re_v (i := 1)) (ras_cons (re_v (i := 8)) ras_nil))) (r_len (ras_cons (re_v (i := 5)) ras_nil))) (rw_or (rt_cmp oIsNot (re_call (i := 24) rfl (ras_cons (re_v (i := 1)) (ras_cons (re_v (i := 8)) (ras_cons (re_tup (ra_cons (re_op oAdd (re_v (i := 7)) (re_v (i := 4))) (ra_cons (re_v (i := 5)) ra_nil))) ras_nil)))) re_bl) (rw_or1 (rt_cmp oNe (re_call (i := 25) rfl (ras_cons (re_v (i := 1)) (ras_cons (re_call (i := 42) rfl (ras_cons (re_v (i := 2)) ras_nil)) ras_nil))) (r_len (ras_cons (re_v (i := 5)) ras_nil))))))) (rss_one (rs_ret re_bl)) rss_nil) (rss_cons (rs_set (i := 6) (re_op oAdd re_int (re_call (i := 27) rfl (ras_cons (re_v (i := 0)) (ras_cons (re_ix (re_v (i := 1)) re_int) ras_nil))))) (rss_cons (rs_for (ri_seq (re_tup (ra_cons (re_tup (ra_cons (re_op oAdd (re_v (i := 4)) (re_tup (ra_cons (re_v (i := 6)) ra_nil))) (ra_cons (re_v (i := 5)) ra_nil))) (ra_cons (re_tup (ra_cons (re_v (i := 4)) (ra_cons (re_op oAdd (re_sl (re_v (i := 5)) (ro_some re_int) ro_none) (re_sl (re_v (i := 5)) ro_none (ro_some re_int))) ra_nil))) (ra_cons (re_tup (ra_cons (re_call (i := 42) rfl (ras_cons (re_v (i := 4)) ras_nil)) (ra_cons (re_v (i := 5)) ra_nil))) (ra_cons (re_tup (ra_cons (re_v (i := 4)) (ra_cons (re_op oAdd (re_v (i := 5)) (re_tup (ra_cons (re_v (i := 6)) ra_nil))) ra_nil))) (ra_cons (re_tup (ra_cons (re_tup ra_nil) (ra_cons (re_v (i := 5)) ra_nil))) (ra_cons (re_tup (ra_cons (re_v (i := 4)) (ra_cons (re_v (i := 2)) ra_nil))) ra_nil)))))))) (rg_name (i := 9)) (rss_cons (rs_set (i := 10) (re_and (re_call (i := 41) rfl (ras_cons (re_v (i := 1)) (ras_cons (re_ix (re_v (i := 9)) re_int) ras_nil))) (re_one (re_cmp oEq (re_call (i := 43) rfl (ras_cons (re_v (i := 1)) (ras_cons (re_op oAdd (re_op oAdd (re_ix (re_v (i := 9)) re_int) (re_ix (re_v (i := 9)) re_int)) (re_call (i := 42) rfl (ras_cons (re_ix (re_v (i := 9)) re_int) ras_nil))) ras_nil))) (re_call (i := 37) rfl (ras_cons (re_v (i := 1)) (ras_cons (re_v (i := 2)) ras_nil))))))) (rss_one (rs_if (rt_cmp oNe (re_call (i := 24) rfl (ras_cons (re_v (i := 1)) (ras_cons (re_v (i := 2)) (ras_cons (re_v (i := 9)) ras_nil)))) (re_v (i := 10))) (rss_one (rs_ret re_bl)) rss_nil)))) (rss_cons (rs_set (i := 11) (re_lst (ra_cons re_non (ra_cons (re_tup ra_nil) (ra_cons re_int (ra_cons (re_lst (ra_cons (re_v (i := 4)) (ra_cons (re_v (i := 5)) ra_nil))) (ra_cons (re_tup (ra_cons (re_v (i := 4)) ra_nil)) (ra_cons (re_tup (ra_cons (re_v (i := 4)) (ra_cons (re_v (i := 5)) (ra_cons (re_tup ra_nil) ra_nil)))) ra_nil)))))))) (rss_cons (rs_set (i := 11) (re_op oAdd (re_v (i := 11)) (re_lst (ra_cons (re_tup (ra_cons (r_list (ras_cons (re_v (i := 4)) ras_nil)) (ra_cons (re_v (i := 5)) ra_nil))) (ra_cons (re_tup (ra_cons (re_v (i := 4)) (ra_cons (r_list (ras_cons (re_v (i := 5)) ras_nil)) ra_nil))) (ra_cons (re_tup (ra_cons (re_v (i := 4)) (ra_cons re_non ra_nil))) (ra_cons (re_tup (ra_cons (re_tup (ra_cons re_int ra_nil)) (ra_cons (re_v (i := 5)) ra_nil))) (ra_cons (re_tup (ra_cons (re_v (i := 4)) (ra_cons (re_tup (ra_cons (re_op oAdd (re_ix (re_v (i := 1)) re_int) re_int) ra_nil)) ra_nil))) (ra_cons (re_tup (ra_cons (re_op oAdd (re_v (i := 4)) (re_tup (ra_cons re_bl ra_nil))) (ra_cons (re_v (i := 5)) ra_nil))) ra_nil))))))))) (rss_one (rs_ret (re_cmp oEq (re_lc (own := [("odd", 12)]) (slots := [12]) (ri_seq (re_v (i := 11))) (blkOk_by (by kernel_rfl)) (fun _ => Iff.rfl) (fun _ _ _ _ _ => (rg_name (i := 12))) (fun _ _ _ _ _ => (rts_one (rt_cmp oIsNot (re_call (i := 24) rfl (ras_cons (re_v (i := 1)) (ras_cons (re_v (i := 2)) (ras_cons (re_v (i := 12)) ras_nil)))) re_bl))) (fun _ _ _ _ _ => (re_v (i := 12)))) (re_lst ra_nil)))))))))))))))))), fun _ _ _ _ _ _ us hl => match us, hl with | [_, _, _], _ => rfl⟩
/-! 45 _law_errors: ['good', 'words', 'odd', 'call']; mut ['words'] -/
abbrev s__law_errors : Stmt := topS 58
def b__law_errors (R R2 : Calls) : DenS := (sSeq (sParM [(false, (eTup (aCons (eC (.int 3)) (aCons (eTup (aCons (eTup (aCons (eC (.int 0)) (aCons (eC (.int 2)) aNil))) aNil)) aNil)))), (true, (eLst aNil))] [0, 1]) (sSeq (sFor (iS (eCall R 39 DL.gNil)) (tN 2) (sSeq (sSetM 1 (eOp dAdd (eV 1) (eLc (iS (eTup (aCons (eC (.fn 22)) (aCons (eC (.fn 23)) (aCons (eC (.fn 25)) aNil))))) (tN 3) bYes (eErr prg errI (eCallV fns R2 3 (DL.gCons (eV 2) (DL.gCons (eC .non) DL.gNil))))))) (sApp 1 (eErr prg errI (eCall R2 24 (DL.gCons (eV 2) (DL.gCons (eC .non) (DL.gCons (eC .non) DL.gNil)))))))) (sSeq (sIf (bV (eOp dNe (eV 1) (eOp dMul (eLst (aCons (eC (.str "letters")) aNil)) (eC (.int 56))))) (sRet (eC (.bl false))) sNext) (sSeq (sSetM 1 (eLst aNil)) (sSeq (sFor (iS (eCall R 40 DL.gNil)) (tN 2) (sSeq (sSetM 1 (eOp dAdd (eV 1) (eLc (iS (eTup (aCons (eC (.fn 22)) (aCons (eC (.fn 23)) (aCons (eC (.fn 25)) aNil))))) (tN 3) bYes (eErr prg errI (eCallV fns R2 3 (DL.gCons (eV 0) (DL.gCons (eV 2) DL.gNil))))))) (sApp 1 (eErr prg errI (eCall R2 24 (DL.gCons (eV 0) (DL.gCons (eV 2) (DL.gCons (eC .non) DL.gNil)))))))) (sRet (eOp dEq (eV 1) (eOp dMul (eLst (aCons (eC (.str "turned")) aNil)) (eC (.int 48))))))))))
def d__law_errors : DefI := ⟨"_law_errors", s__law_errors, ["good", "words", "odd", "call"], [], true, b__law_errors⟩
theorem ok__law_errors : d__law_errors.Ok prg := ⟨⟨rfl, rfl, rfl, by decide +kernel, rfl, by decide +kernel, by decide +kernel⟩, fun ⟨_, g, R, k, R2, k2, lm⟩ Pg w K mg base f cdv A outer s H E Wx hP hl => by
  cases hP
  cases hl
  exact (rss_cons (rs_unpM (ram_cons (re_tup (ra_cons re_int (ra_cons (re_tup (ra_cons (re_tup (ra_cons re_int (ra_cons re_int ra_nil))) ra_nil)) ra_nil))) (ram_cons (re_lst ra_nil) ram_nil)) (rgm_cons (i := 0) (rgm_cons (i := 1) rgm_nil))) (rss_cons (rs_for (ri_seq (re_call0 (i := 39) rfl)) (rg_name (i := 2)) (rss_cons (rs_setM (i := 1) (re_op oAdd (re_v (i := 1)) (re_lc (own := [("call", 3)]) (slots := [3]) (ri_seq (re_tup (ra_cons (re_fn (i := 22) rfl) (ra_cons (re_fn (i := 23) rfl) (ra_cons (re_fn (i := 25) rfl) ra_nil))))) (blkOk_by (by kernel_rfl)) (fun _ => Iff.rfl) (fun _ _ _ _ _ => (rg_name (i := 3))) (fun _ _ _ _ _ => rts_nil) (fun _ _ _ _ _ => (re_err (e := errI) (hs := hs_err) rfl err_ok (fun _ _ _ _ _ _ _ => (re_callv (i := 3) (ras_cons (re_v (i := 2)) (ras_cons re_non ras_nil)))) (lamS_by (by kernel_rfl))))))) (rss_one (rs_app (i := 1) (re_err (e := errI) (hs := hs_err) rfl err_ok (fun _ _ _ _ _ _ _ => (re_call (i := 24) rfl (ras_cons (re_v (i := 2)) (ras_cons re_non (ras_cons re_non ras_nil))))) (lamS_by (by kernel_rfl))))))) (rss_cons (rs_if (rt_cmp oNe (re_v (i := 1)) (re_op oMul (re_lst (ra_cons re_str ra_nil)) re_int)) (rss_one (rs_ret re_bl)) rss_nil) (rss_cons (rs_setM (i := 1) (re_lst ra_nil)) (rss_cons (rs_for (ri_seq (re_call0 (i := 40) rfl)) (rg_name (i := 2)) (rss_cons (rs_setM (i := 1) (re_op oAdd (re_v (i := 1)) (re_lc (own := [("call", 3)]) (slots := [3]) (ri_seq (re_tup (ra_cons (re_fn (i := 22) rfl) (ra_cons (re_fn (i := 23) rfl) (ra_cons (re_fn (i := 25) rfl) ra_nil))))) (blkOk_by (by kernel_rfl)) (fun _ => Iff.rfl) (fun _ _ _ _ _ => (rg_name (i := 3))) (fun _ _ _ _ _ => rts_nil) (fun _ _ _ _ _ => (re_err (e := errI) (hs := hs_err) rfl err_ok (fun _ _ _ _ _ _ _ => (re_callv (i := 3) (ras_cons (re_v (i := 0)) (ras_cons (re_v (i := 2)) ras_nil)))) (lamS_by (by kernel_rfl))))))) (rss_one (rs_app (i := 1) (re_err (e := errI) (hs := hs_err) rfl err_ok (fun _ _ _ _ _ _ _ => (re_call (i := 24) rfl (ras_cons (re_v (i := 0)) (ras_cons (re_v (i := 2)) (ras_cons re_non ras_nil))))) (lamS_by (by kernel_rfl))))))) (rss_one (rs_ret (re_cmp oEq (re_v (i := 1)) (re_op oMul (re_lst (ra_cons re_str ra_nil)) re_int))))))))), fun _ _ _ _ _ _ us hl => match us, hl with | [], _ => rfl⟩
/-! 46 law: ['script', 'cup', 'a', 'tells', 'due', 'turn', 'letters', 'middle', 'by']; mut ['cup'] -/
abbrev s_law : Stmt := topS 59
def b_law (R R2 : Calls) : DenS := (sSeq (sSetM 1 (eCall R 26 (DL.gCons (eV 0) DL.gNil))) (sSeq (sSet 2 (eTup (aCons (eC (.int 3)) (aCons (eTup (aCons (eTup (aCons (eC (.int 0)) (aCons (eC (.int 2)) aNil))) aNil)) aNil)))) (sSeq (sSet 3 (eLst (aCons (eCall R 22 (DL.gCons (eV 2) (DL.gCons (eTup (aCons (eC (.int 1)) (aCons (eC (.int 2)) aNil))) DL.gNil))) (aCons (eCall R 22 (DL.gCons (eV 2) (DL.gCons (eTup (aCons (eC (.int 1)) (aCons (eC (.int 2)) (aCons (eNeg (eC (.int 1))) aNil)))) DL.gNil))) (aCons (eCall R 22 (DL.gCons (eV 2) (DL.gCons (eTup aNil) DL.gNil))) (aCons (eCall R 24 (DL.gCons (eV 2) (DL.gCons (eTup (aCons (eC (.int 1)) (aCons (eC (.int 2)) (aCons (eNeg (eC (.int 1))) aNil)))) (DL.gCons (eTup (aCons (eTup (aCons (eC (.int 1)) aNil)) (aCons (eTup (aCons (eC (.int 2)) aNil)) aNil))) DL.gNil)))) aNil)))))) (sSeq (sSet 3 (eOp dAdd (eV 3) (eLst (aCons (eCall R 24 (DL.gCons (eV 2) (DL.gCons (eTup (aCons (eC (.int 1)) (aCons (eC (.int 2)) (aCons (eNeg (eC (.int 1))) aNil)))) (DL.gCons (eTup (aCons (eTup aNil) (aCons (eTup (aCons (eC (.int 2)) aNil)) aNil))) DL.gNil)))) (aCons (eCall R 25 (DL.gCons (eV 2) (DL.gCons (eTup (aCons (eC (.int 1)) (aCons (eC (.int 2)) (aCons (eNeg (eC (.int 1))) aNil)))) DL.gNil))) (aCons (eCall R 25 (DL.gCons (eV 2) (DL.gCons (eTup (aCons (eC (.int 1)) (aCons (eC (.int 3)) (aCons (eNeg (eC (.int 1))) aNil)))) DL.gNil))) aNil)))))) (sSeq (sSet 4 (eLst (aCons (eC (.bl true)) (aCons (eC (.bl false)) (aCons (eC (.bl true)) (aCons (eC (.bl true)) (aCons (eC (.bl false)) (aCons (eC (.int 1)) (aCons (eC (.int 1)) aNil))))))))) (sSeq (sSet 3 (eOp dAdd (eV 3) (eLst (aCons (eCall R 24 (DL.gCons (eV 2) (DL.gCons (eTup (aCons (eC (.int 3)) (aCons (eC (.int 1)) (aCons (eC (.int 2)) (aCons (eNeg (eC (.int 1))) (aCons (eNeg (eC (.int 3))) aNil)))))) (DL.gCons (eTup (aCons (eTup (aCons (eC (.int 1)) (aCons (eC (.int 3)) aNil))) (aCons (eTup (aCons (eC (.int 2)) aNil)) aNil))) DL.gNil)))) (aCons (eCall R 24 (DL.gCons (eV 2) (DL.gCons (eTup (aCons (eC (.int 3)) (aCons (eC (.int 1)) (aCons (eC (.int 2)) (aCons (eNeg (eC (.int 3))) (aCons (eNeg (eC (.int 1))) aNil)))))) (DL.gCons (eTup (aCons (eTup (aCons (eC (.int 3)) (aCons (eC (.int 1)) aNil))) (aCons (eTup (aCons (eC (.int 2)) aNil)) aNil))) DL.gNil)))) (aCons (eCall R 22 (DL.gCons (eV 2) (DL.gCons (eTup (aCons (eC (.int 1)) (aCons (eC (.int 2)) (aCons (eC (.int 3)) (aCons (eNeg (eC (.int 1))) aNil))))) DL.gNil))) aNil)))))) (sSeq (sSet 3 (eOp dAdd (eV 3) (eLst (aCons (eCall R 25 (DL.gCons (eV 2) (DL.gCons (eTup (aCons (eC (.int 1)) (aCons (eC (.int 2)) (aCons (eC (.int 3)) (aCons (eNeg (eC (.int 1))) aNil))))) DL.gNil))) (aCons (eCall R 22 (DL.gCons (eV 2) (DL.gCons (eTup (aCons (eC (.int 1)) (aCons (eC (.int 2)) (aCons (eNeg (eC (.int 1))) (aCons (eC (.int 3)) aNil))))) DL.gNil))) (aCons (eCall R 22 (DL.gCons (eV 2) (DL.gCons (eTup (aCons (eC (.int 3)) (aCons (eC (.int 2)) (aCons (eNeg (eC (.int 1))) (aCons (eC (.int 2)) aNil))))) DL.gNil))) aNil)))))) (sSeq (sSet 4 (eOp dAdd (eV 4) (eLst (aCons (eC (.bl true)) (aCons (eC (.bl true)) (aCons (eC (.bl false)) (aCons (eC (.int 2)) (aCons (eC (.bl false)) (aCons (eC (.bl true)) aNil))))))))) (sSeq (sSet 3 (eOp dAdd (eV 3) (eLst (aCons (eCall R 22 (DL.gCons (eV 2) (DL.gCons (eTup (aCons (eC (.int 2)) (aCons (eNeg (eC (.int 2))) aNil))) DL.gNil))) (aCons (eCall R 22 (DL.gCons (eV 2) (DL.gCons (eTup (aCons (eC (.int 1)) (aCons (eC (.int 3)) aNil))) DL.gNil))) (aCons (eCall R 24 (DL.gCons (eV 2) (DL.gCons (eTup (aCons (eNeg (eC (.int 1))) (aCons (eC (.int 2)) (aCons (eC (.int 1)) aNil)))) (DL.gCons (eTup (aCons (eTup (aCons (eNeg (eC (.int 1))) aNil)) (aCons (eTup (aCons (eC (.int 2)) aNil)) aNil))) DL.gNil)))) (aCons (eCall R 24 (DL.gCons (eV 2) (DL.gCons (eTup (aCons (eNeg (eC (.int 1))) (aCons (eC (.int 2)) (aCons (eC (.int 1)) aNil)))) (DL.gCons (eTup (aCons (eTup (aCons (eC (.int 1)) aNil)) (aCons (eTup (aCons (eC (.int 2)) aNil)) aNil))) DL.gNil)))) aNil))))))) (sSeq (sSet 3 (eOp dAdd (eV 3) (eLst (aCons (eCall R 25 (DL.gCons (eV 2) (DL.gCons (eTup (aCons (eC (.int 2)) (aCons (eC (.int 1)) (aCons (eC (.int 2)) (aCons (eNeg (eC (.int 1))) (aCons (eNeg (eC (.int 2))) aNil)))))) DL.gNil))) (aCons (eOp dIx (eCall R 23 (DL.gCons (eV 2) (DL.gCons (eTup (aCons (eC (.int 1)) (aCons (eNeg (eC (.int 1))) aNil))) DL.gNil))) (eC (.int 1))) (aCons (eCall R 22 (DL.gCons (eTup (aCons (eC (.int 2)) (aCons (eTup (aCons (eTup (aCons (eC (.int 0)) (aCons (eC (.int 1)) aNil))) aNil)) aNil))) (DL.gCons (eTup (aCons (eC (.int 1)) (aCons (eC (.int 2)) (aCons (eC (.int 1)) aNil)))) DL.gNil))) (aCons (eOp dIx (eCall R 23 (DL.gCons (eTup (aCons (eC (.int 1)) (aCons (eTup aNil) aNil))) (DL.gCons (eTup (aCons (eC (.int 1)) (aCons (eC (.int 1)) (aCons (eNeg (eC (.int 1))) aNil)))) DL.gNil))) (eC (.int 1))) aNil))))))) (sSeq (sSet 4 (eOp dAdd (eV 4) (eLst (aCons (eC (.bl false)) (aCons (eC (.bl true)) (aCons (eC (.bl true)) (aCons (eC (.bl false)) (aCons (eC (.int 1)) (aCons (eTup aNil) (aCons (eC (.bl true)) (aCons (eTup (aCons (eC (.int 1)) aNil)) aNil))))))))))) (sSeq (sIf (bNot (bV (eCall R 30 (DL.gCons (eV 3) (DL.gCons (eV 4) DL.gNil))))) (sRet (eC (.bl false))) sNext) (sSeq (sFor (i1 (eC (.int 16))) (tN 5) (sSeq (sSet 6 (eIf (bV (eOp dGt (eV 5) (eC (.int 2)))) (eCall R 31 (DL.gCons (eV 1) DL.gNil)) (eV 2))) (sIf (bNot (bV (eCall R 44 (DL.gCons (eV 1) (DL.gCons (eV 6) (DL.gCons (eCall R 32 (DL.gCons (eV 1) (DL.gCons (eV 6) (DL.gCons (eC (.int 5)) DL.gNil)))) DL.gNil)))))) (sRet (eC (.bl false))) sNext))) (sSeq (sFor (iS (eTup (aCons (eTup (aCons (eC (.int 1)) (aCons (eC (.int 2)) aNil))) (aCons (eTup (aCons (eC (.int 1)) (aCons (eC (.int 1)) aNil))) (aCons (eTup (aCons (eC (.int 3)) (aCons (eC (.int 2)) (aCons (eC (.int 1)) aNil)))) (aCons (eTup (aCons (eC (.int 2)) (aCons (eNeg (eC (.int 1))) aNil))) aNil)))))) (tN 7) (sFor (iS (eTup (aCons (eTup (aCons (eC (.int 1)) aNil)) (aCons (eTup (aCons (eC (.int 2)) (aCons (eC (.int 3)) aNil))) (aCons (eTup (aCons (eNeg (eC (.int 3))) (aCons (eC (.int 1)) aNil))) aNil))))) (tN 8) (sIf (bOr (bNot (bV (eCall R 44 (DL.gCons (eV 1) (DL.gCons (eV 2) (DL.gCons (eOp dAdd (eOp dAdd (eV 8) (eV 7)) (eCall R 42 (DL.gCons (eV 8) DL.gNil))) DL.gNil)))))) (bV (eOp dNe (eCall R 25 (DL.gCons (eV 2) (DL.gCons (eOp dAdd (eOp dAdd (eV 8) (eV 7)) (eCall R 42 (DL.gCons (eV 8) DL.gNil))) DL.gNil))) (eB dLen (DL.gCons (eV 7) DL.gNil))))) (sRet (eC (.bl false))) sNext))) (sRet (eCall R 45 DL.gNil))))))))))))))))
def d_law : DefI := ⟨"law", s_law, ["script", "cup", "a", "tells", "due", "turn", "letters", "middle", "by"], ["script"], false, b_law⟩
theorem ok_law : d_law.Ok prg := ⟨⟨rfl, rfl, rfl, by decide +kernel, rfl, by decide +kernel, by decide +kernel⟩, fun ⟨_, g, R, k, R2, k2, lm⟩ Pg w K mg base f cdv A outer s H E Wx hP hl => by
  cases hP
  cases hl
  exact (rss_cons (rs_setM (i := 1) (re_call (i := 26) rfl (ras_cons (re_v (i := 0)) ras_nil))) (rss_cons (rs_set (i := 2) (re_tup (ra_cons re_int (ra_cons (re_tup (ra_cons (re_tup (ra_cons re_int (ra_cons re_int ra_nil))) ra_nil)) ra_nil)))) (rss_cons (rs_set (i := 3) (re_lst (ra_cons (re_call (i := 22) rfl (ras_cons (re_v (i := 2)) (ras_cons (re_tup (ra_cons re_int (ra_cons re_int ra_nil))) ras_nil))) (ra_cons (re_call (i := 22) rfl (ras_cons (re_v (i := 2)) (ras_cons (re_tup (ra_cons re_int (ra_cons re_int (ra_cons (re_neg re_int) ra_nil)))) ras_nil))) (ra_cons (re_call (i := 22) rfl (ras_cons (re_v (i := 2)) (ras_cons (re_tup ra_nil) ras_nil))) (ra_cons (re_call (i := 24) rfl (ras_cons (re_v (i := 2)) (ras_cons (re_tup (ra_cons re_int (ra_cons re_int (ra_cons (re_neg re_int) ra_nil)))) (ras_cons (re_tup (ra_cons (re_tup (ra_cons re_int ra_nil)) (ra_cons (re_tup (ra_cons re_int ra_nil)) ra_nil))) ras_nil)))) ra_nil)))))) (rss_cons (rs_set (i := 3) (re_op oAdd (re_v (i := 3)) (re_lst (ra_cons (re_call (i := 24) rfl (ras_cons (re_v (i := 2)) (ras_cons (re_tup (ra_cons re_int (ra_cons re_int (ra_cons (re_neg re_int) ra_nil)))) (ras_cons (re_tup (ra_cons (re_tup ra_nil) (ra_cons (re_tup (ra_cons re_int ra_nil)) ra_nil))) ras_nil)))) (ra_cons (re_call (i := 25) rfl (ras_cons (re_v (i := 2)) (ras_cons (re_tup (ra_cons re_int (ra_cons re_int (ra_cons (re_neg re_int) ra_nil)))) ras_nil))) (ra_cons (re_call (i := 25) rfl (ras_cons (re_v (i := 2)) (ras_cons (re_tup (ra_cons re_int (ra_cons re_int (ra_cons (re_neg re_int) ra_nil)))) ras_nil))) ra_nil)))))) (rss_cons (rs_set (i := 4) (re_lst (ra_cons re_bl (ra_cons re_bl (ra_cons re_bl (ra_cons re_bl (ra_cons re_bl (ra_cons re_int (ra_cons re_int ra_nil))))))))) (rss_cons (rs_set (i := 3) (re_op oAdd (re_v (i := 3)) (re_lst (ra_cons (re_call (i := 24) rfl (ras_cons (re_v (i := 2)) (ras_cons (re_tup (ra_cons re_int (ra_cons re_int (ra_cons re_int (ra_cons (re_neg re_int) (ra_cons (re_neg re_int) ra_nil)))))) (ras_cons (re_tup (ra_cons (re_tup (ra_cons re_int (ra_cons re_int ra_nil))) (ra_cons (re_tup (ra_cons re_int ra_nil)) ra_nil))) ras_nil)))) (ra_cons (re_call (i := 24) rfl (ras_cons (re_v (i := 2)) (ras_cons (re_tup (ra_cons re_int (ra_cons re_int (ra_cons re_int (ra_cons (re_neg re_int) (ra_cons (re_neg re_int) ra_nil)))))) (ras_cons (re_tup (ra_cons (re_tup (ra_cons re_int (ra_cons re_int ra_nil))) (ra_cons (re_tup (ra_cons re_int ra_nil)) ra_nil))) ras_nil)))) (ra_cons (re_call (i := 22) rfl (ras_cons (re_v (i := 2)) (ras_cons (re_tup (ra_cons re_int (ra_cons re_int (ra_cons re_int (ra_cons (re_neg re_int) ra_nil))))) ras_nil))) ra_nil)))))) (rss_cons (rs_set (i := 3) (re_op oAdd (re_v (i := 3)) (re_lst (ra_cons (re_call (i := 25) rfl (ras_cons (re_v (i := 2)) (ras_cons (re_tup (ra_cons re_int (ra_cons re_int (ra_cons re_int (ra_cons (re_neg re_int) ra_nil))))) ras_nil))) (ra_cons (re_call (i := 22) rfl (ras_cons (re_v (i := 2)) (ras_cons (re_tup (ra_cons re_int (ra_cons re_int (ra_cons (re_neg re_int) (ra_cons re_int ra_nil))))) ras_nil))) (ra_cons (re_call (i := 22) rfl (ras_cons (re_v (i := 2)) (ras_cons (re_tup (ra_cons re_int (ra_cons re_int (ra_cons (re_neg re_int) (ra_cons re_int ra_nil))))) ras_nil))) ra_nil)))))) (rss_cons (rs_set (i := 4) (re_op oAdd (re_v (i := 4)) (re_lst (ra_cons re_bl (ra_cons re_bl (ra_cons re_bl (ra_cons re_int (ra_cons re_bl (ra_cons re_bl ra_nil))))))))) (rss_cons (rs_set (i := 3) (re_op oAdd (re_v (i := 3)) (re_lst (ra_cons (re_call (i := 22) rfl (ras_cons (re_v (i := 2)) (ras_cons (re_tup (ra_cons re_int (ra_cons (re_neg re_int) ra_nil))) ras_nil))) (ra_cons (re_call (i := 22) rfl (ras_cons (re_v (i := 2)) (ras_cons (re_tup (ra_cons re_int (ra_cons re_int ra_nil))) ras_nil))) (ra_cons (re_call (i := 24) rfl (ras_cons (re_v (i := 2)) (ras_cons (re_tup (ra_cons (re_neg re_int) (ra_cons re_int (ra_cons re_int ra_nil)))) (ras_cons (re_tup (ra_cons (re_tup (ra_cons (re_neg re_int) ra_nil)) (ra_cons (re_tup (ra_cons re_int ra_nil)) ra_nil))) ras_nil)))) (ra_cons (re_call (i := 24) rfl (ras_cons (re_v (i := 2)) (ras_cons (re_tup (ra_cons (re_neg re_int) (ra_cons re_int (ra_cons re_int ra_nil)))) (ras_cons (re_tup (ra_cons (re_tup (ra_cons re_int ra_nil)) (ra_cons (re_tup (ra_cons re_int ra_nil)) ra_nil))) ras_nil)))) ra_nil))))))) (rss_cons (rs_set (i := 3) (re_op oAdd (re_v (i := 3)) (re_lst (ra_cons (re_call (i := 25) rfl (ras_cons (re_v (i := 2)) (ras_cons (re_tup (ra_cons re_int (ra_cons re_int (ra_cons re_int (ra_cons (re_neg re_int) (ra_cons (re_neg re_int) ra_nil)))))) ras_nil))) (ra_cons (re_ix (re_call (i := 23) rfl (ras_cons (re_v (i := 2)) (ras_cons (re_tup (ra_cons re_int (ra_cons (re_neg re_int) ra_nil))) ras_nil))) re_int) (ra_cons (re_call (i := 22) rfl (ras_cons (re_tup (ra_cons re_int (ra_cons (re_tup (ra_cons (re_tup (ra_cons re_int (ra_cons re_int ra_nil))) ra_nil)) ra_nil))) (ras_cons (re_tup (ra_cons re_int (ra_cons re_int (ra_cons re_int ra_nil)))) ras_nil))) (ra_cons (re_ix (re_call (i := 23) rfl (ras_cons (re_tup (ra_cons re_int (ra_cons (re_tup ra_nil) ra_nil))) (ras_cons (re_tup (ra_cons re_int (ra_cons re_int (ra_cons (re_neg re_int) ra_nil)))) ras_nil))) re_int) ra_nil))))))) (rss_cons (rs_set (i := 4) (re_op oAdd (re_v (i := 4)) (re_lst (ra_cons re_bl (ra_cons re_bl (ra_cons re_bl (ra_cons re_bl (ra_cons re_int (ra_cons (re_tup ra_nil) (ra_cons re_bl (ra_cons (re_tup (ra_cons re_int ra_nil)) ra_nil))))))))))) (rss_cons (rs_if (rt_not (rt_val (re_call (i := 30) rfl (ras_cons (re_v (i := 3)) (ras_cons (re_v (i := 4)) ras_nil))))) (rss_one (rs_ret re_bl)) rss_nil) (rss_cons (rs_for (ri_range1 re_int) (rg_name (i := 5)) (rss_cons (rs_set (i := 6) (re_if (rt_cmp oGt (re_v (i := 5)) re_int) (re_call (i := 31) rfl (ras_cons (re_v (i := 1)) ras_nil)) (re_v (i := 2)))) (rss_one (rs_if (rt_not (rt_val (re_call (i := 44) rfl (ras_cons (re_v (i := 1)) (ras_cons (re_v (i := 6)) (ras_cons (re_call (i := 32) rfl (ras_cons (re_v (i := 1)) (ras_cons (re_v (i := 6)) (ras_cons re_int ras_nil)))) ras_nil)))))) (rss_one (rs_ret re_bl)) rss_nil)))) (rss_cons (rs_for (ri_seq (re_tup (ra_cons (re_tup (ra_cons re_int (ra_cons re_int ra_nil))) (ra_cons (re_tup (ra_cons re_int (ra_cons re_int ra_nil))) (ra_cons (re_tup (ra_cons re_int (ra_cons re_int (ra_cons re_int ra_nil)))) (ra_cons (re_tup (ra_cons re_int (ra_cons (re_neg re_int) ra_nil))) ra_nil)))))) (rg_name (i := 7)) (rss_one (rs_for (ri_seq (re_tup (ra_cons (re_tup (ra_cons re_int ra_nil)) (ra_cons (re_tup (ra_cons re_int (ra_cons re_int ra_nil))) (ra_cons (re_tup (ra_cons (re_neg re_int) (ra_cons re_int ra_nil))) ra_nil))))) (rg_name (i := 8)) (rss_one (rs_if (RWt.rt (rw_or (rt_not (rt_val (re_call (i := 44) rfl (ras_cons (re_v (i := 1)) (ras_cons (re_v (i := 2)) (ras_cons (re_op oAdd (re_op oAdd (re_v (i := 8)) (re_v (i := 7))) (re_call (i := 42) rfl (ras_cons (re_v (i := 8)) ras_nil))) ras_nil)))))) (rw_or1 (rt_cmp oNe (re_call (i := 25) rfl (ras_cons (re_v (i := 2)) (ras_cons (re_op oAdd (re_op oAdd (re_v (i := 8)) (re_v (i := 7))) (re_call (i := 42) rfl (ras_cons (re_v (i := 8)) ras_nil))) ras_nil))) (r_len (ras_cons (re_v (i := 7)) ras_nil)))))) (rss_one (rs_ret re_bl)) rss_nil))))) (rss_one (rs_ret (re_call0 (i := 45) rfl))))))))))))))))), fun _ _ _ _ _ _ us hl => match us, hl with | [_], _ => rfl⟩
def defs : List DefI := [d_is_whole, d_is_tuple_of, d_is_pair, d_is_letters, d_need_letters, d_is_free, d_is_signed, d_is_turned_of, d_need_turned, d_may_pass, d_key_of, d_meeting_place, d_reduced_in, d_front_places, d_ordered_in, d_least_in, d_back_in, d_end_places, d_outer_places, d_round_in, d_is_round_in, d_shows_round, d_is_round, d_round_of, d_is_round_of, d_round_length, d__law_cup, d__law_roll, d__law_some, d__law_sort, d__law_like, d__law_letters, d__law_word, d__law_free, d__law_class, d__law_order, d__law_reduced, d__law_least, d__law_error, d__law_no_letters, d__law_no_words, d__law_is_round, d__law_back, d__law_quick, d__law_word_right, d__law_errors, d_law]
theorem u_is_whole {k : Nat} (hk : 3 ≤ k) {st : Stor} {a0 a1 a2 : SV} : run defs k 0 [a0, a1, a2] st = fin st.length (b_is_whole (run defs (k - 1)) (run defs (k - 3)) [some a0, some a1, some a2] st) := (run_k hk (show defs[0]? = some d_is_whole from rfl) [a0, a1, a2] st).trans rfl
theorem u_is_tuple_of {k : Nat} (hk : 3 ≤ k) {st : Stor} {a0 a1 a2 : SV} : run defs k 1 [a0, a1, a2] st = fin st.length (b_is_tuple_of (run defs (k - 1)) (run defs (k - 3)) [some a0, some a1, some a2] st) := (run_k hk (show defs[1]? = some d_is_tuple_of from rfl) [a0, a1, a2] st).trans rfl
theorem u_is_pair {k : Nat} (hk : 3 ≤ k) {st : Stor} {a0 a1 : SV} : run defs k 2 [a0, a1] st = fin st.length (b_is_pair (run defs (k - 1)) (run defs (k - 3)) [some a0, some a1, none] st) := (run_k hk (show defs[2]? = some d_is_pair from rfl) [a0, a1] st).trans rfl
theorem u_is_letters {k : Nat} (hk : 3 ≤ k) {st : Stor} {a0 : SV} : run defs k 3 [a0] st = fin st.length (b_is_letters (run defs (k - 1)) (run defs (k - 3)) [some a0, none, none] st) := (run_k hk (show defs[3]? = some d_is_letters from rfl) [a0] st).trans rfl
theorem u_need_letters {k : Nat} (hk : 3 ≤ k) {st : Stor} {a0 : SV} : run defs k 4 [a0] st = fin st.length (b_need_letters (run defs (k - 1)) (run defs (k - 3)) [some a0] st) := (run_k hk (show defs[4]? = some d_need_letters from rfl) [a0] st).trans rfl
theorem u_is_free {k : Nat} (hk : 3 ≤ k) {st : Stor} {a0 a1 a2 : SV} : run defs k 5 [a0, a1, a2] st = fin st.length (b_is_free (run defs (k - 1)) (run defs (k - 3)) [some a0, some a1, some a2] st) := (run_k hk (show defs[5]? = some d_is_free from rfl) [a0, a1, a2] st).trans rfl
theorem u_is_signed {k : Nat} (hk : 3 ≤ k) {st : Stor} {a0 a1 : SV} : run defs k 6 [a0, a1] st = fin st.length (b_is_signed (run defs (k - 1)) (run defs (k - 3)) [some a0, some a1] st) := (run_k hk (show defs[6]? = some d_is_signed from rfl) [a0, a1] st).trans rfl
theorem u_is_turned_of {k : Nat} (hk : 3 ≤ k) {st : Stor} {a0 a1 a2 : SV} : run defs k 7 [a0, a1, a2] st = fin st.length (b_is_turned_of (run defs (k - 1)) (run defs (k - 3)) [some a0, some a1, some a2, none] st) := (run_k hk (show defs[7]? = some d_is_turned_of from rfl) [a0, a1, a2] st).trans rfl
theorem u_need_turned {k : Nat} (hk : 3 ≤ k) {st : Stor} {a0 a1 : SV} : run defs k 8 [a0, a1] st = fin st.length (b_need_turned (run defs (k - 1)) (run defs (k - 3)) [some a0, some a1] st) := (run_k hk (show defs[8]? = some d_need_turned from rfl) [a0, a1] st).trans rfl
theorem u_may_pass {k : Nat} (hk : 3 ≤ k) {st : Stor} {a0 a1 a2 : SV} : run defs k 9 [a0, a1, a2] st = fin st.length (b_may_pass (run defs (k - 1)) (run defs (k - 3)) [some a0, some a1, some a2] st) := (run_k hk (show defs[9]? = some d_may_pass from rfl) [a0, a1, a2] st).trans rfl
theorem u_key_of {k : Nat} (hk : 3 ≤ k) {st : Stor} {a0 : SV} : run defs k 10 [a0] st = fin st.length (b_key_of (run defs (k - 1)) (run defs (k - 3)) [some a0] st) := (run_k hk (show defs[10]? = some d_key_of from rfl) [a0] st).trans rfl
theorem u_meeting_place {k : Nat} (hk : 3 ≤ k) {st : Stor} {a0 a1 a2 : SV} : run defs k 11 [a0, a1, a2] st = fin st.length (b_meeting_place (run defs (k - 1)) (run defs (k - 3)) [some a0, some a1, some a2, none] st) := (run_k hk (show defs[11]? = some d_meeting_place from rfl) [a0, a1, a2] st).trans rfl
theorem u_reduced_in {k : Nat} (hk : 3 ≤ k) {st : Stor} {a0 a1 : SV} : run defs k 12 [a0, a1] st = fin st.length (b_reduced_in (run defs (k - 1)) (run defs (k - 3)) [some a0, some a1, none, none, none] st) := (run_k hk (show defs[12]? = some d_reduced_in from rfl) [a0, a1] st).trans rfl
theorem u_front_places {k : Nat} (hk : 3 ≤ k) {st : Stor} {a0 a1 : SV} : run defs k 13 [a0, a1] st = fin st.length (b_front_places (run defs (k - 1)) (run defs (k - 3)) [some a0, some a1, none, none, none, none] st) := (run_k hk (show defs[13]? = some d_front_places from rfl) [a0, a1] st).trans rfl
theorem u_ordered_in {k : Nat} (hk : 3 ≤ k) {st : Stor} {a0 a1 : SV} : run defs k 14 [a0, a1] st = fin st.length (b_ordered_in (run defs (k - 1)) (run defs (k - 3)) [some a0, some a1, none, none, none, none, none] st) := (run_k hk (show defs[14]? = some d_ordered_in from rfl) [a0, a1] st).trans rfl
theorem u_least_in {k : Nat} (hk : 3 ≤ k) {st : Stor} {a0 a1 : SV} : run defs k 15 [a0, a1] st = fin st.length (b_least_in (run defs (k - 1)) (run defs (k - 3)) [some a0, some a1] st) := (run_k hk (show defs[15]? = some d_least_in from rfl) [a0, a1] st).trans rfl
theorem u_back_in {k : Nat} (hk : 3 ≤ k) {st : Stor} {a0 : SV} : run defs k 16 [a0] st = fin st.length (b_back_in (run defs (k - 1)) (run defs (k - 3)) [some a0, none] st) := (run_k hk (show defs[16]? = some d_back_in from rfl) [a0] st).trans rfl
theorem u_end_places {k : Nat} (hk : 3 ≤ k) {st : Stor} {a0 a1 : SV} : run defs k 17 [a0, a1] st = fin st.length (b_end_places (run defs (k - 1)) (run defs (k - 3)) [some a0, some a1, none, none, none, none] st) := (run_k hk (show defs[17]? = some d_end_places from rfl) [a0, a1] st).trans rfl
theorem u_outer_places {k : Nat} (hk : 3 ≤ k) {st : Stor} {a0 a1 : SV} : run defs k 18 [a0, a1] st = fin st.length (b_outer_places (run defs (k - 1)) (run defs (k - 3)) [some a0, some a1, none, none, none, none] st) := (run_k hk (show defs[18]? = some d_outer_places from rfl) [a0, a1] st).trans rfl
theorem u_round_in {k : Nat} (hk : 3 ≤ k) {st : Stor} {a0 a1 : SV} : run defs k 19 [a0, a1] st = fin st.length (b_round_in (run defs (k - 1)) (run defs (k - 3)) [some a0, some a1, none, none, none, none, none, none, none] st) := (run_k hk (show defs[19]? = some d_round_in from rfl) [a0, a1] st).trans rfl
theorem u_is_round_in {k : Nat} (hk : 3 ≤ k) {st : Stor} {a0 a1 : SV} : run defs k 20 [a0, a1] st = fin st.length (b_is_round_in (run defs (k - 1)) (run defs (k - 3)) [some a0, some a1] st) := (run_k hk (show defs[20]? = some d_is_round_in from rfl) [a0, a1] st).trans rfl
theorem u_shows_round {k : Nat} (hk : 3 ≤ k) {st : Stor} {a0 a1 a2 : SV} : run defs k 21 [a0, a1, a2] st = fin st.length (b_shows_round (run defs (k - 1)) (run defs (k - 3)) [some a0, some a1, some a2, none, none, none, none] st) := (run_k hk (show defs[21]? = some d_shows_round from rfl) [a0, a1, a2] st).trans rfl
theorem u_is_round {k : Nat} (hk : 3 ≤ k) {st : Stor} {a0 a1 : SV} : run defs k 22 [a0, a1] st = fin st.length (b_is_round (run defs (k - 1)) (run defs (k - 3)) [some a0, some a1] st) := (run_k hk (show defs[22]? = some d_is_round from rfl) [a0, a1] st).trans rfl
theorem u_round_of {k : Nat} (hk : 3 ≤ k) {st : Stor} {a0 a1 : SV} : run defs k 23 [a0, a1] st = fin st.length (b_round_of (run defs (k - 1)) (run defs (k - 3)) [some a0, some a1] st) := (run_k hk (show defs[23]? = some d_round_of from rfl) [a0, a1] st).trans rfl
theorem u_is_round_of {k : Nat} (hk : 3 ≤ k) {st : Stor} {a0 a1 a2 : SV} : run defs k 24 [a0, a1, a2] st = fin st.length (b_is_round_of (run defs (k - 1)) (run defs (k - 3)) [some a0, some a1, some a2] st) := (run_k hk (show defs[24]? = some d_is_round_of from rfl) [a0, a1, a2] st).trans rfl
theorem u_round_length {k : Nat} (hk : 3 ≤ k) {st : Stor} {a0 a1 : SV} : run defs k 25 [a0, a1] st = fin st.length (b_round_length (run defs (k - 1)) (run defs (k - 3)) [some a0, some a1] st) := (run_k hk (show defs[25]? = some d_round_length from rfl) [a0, a1] st).trans rfl
theorem u__law_cup {k : Nat} (hk : 3 ≤ k) {st : Stor} {a0 : SV} : run defs k 26 [a0] st = fin st.length (b__law_cup (run defs (k - 1)) (run defs (k - 3)) [some a0, none] st) := (run_k hk (show defs[26]? = some d__law_cup from rfl) [a0] st).trans rfl
theorem u__law_roll {k : Nat} (hk : 3 ≤ k) {st : Stor} {a0 a1 : SV} : run defs k 27 [a0, a1] st = fin st.length (b__law_roll (run defs (k - 1)) (run defs (k - 3)) [some a0, some a1, none] st) := (run_k hk (show defs[27]? = some d__law_roll from rfl) [a0, a1] st).trans rfl
theorem u__law_some {k : Nat} (hk : 3 ≤ k) {st : Stor} {a0 a1 : SV} : run defs k 28 [a0, a1] st = fin st.length (b__law_some (run defs (k - 1)) (run defs (k - 3)) [some a0, some a1] st) := (run_k hk (show defs[28]? = some d__law_some from rfl) [a0, a1] st).trans rfl
theorem u__law_sort {k : Nat} (hk : 3 ≤ k) {st : Stor} {a0 : SV} : run defs k 29 [a0] st = fin st.length (b__law_sort (run defs (k - 1)) (run defs (k - 3)) [some a0] st) := (run_k hk (show defs[29]? = some d__law_sort from rfl) [a0] st).trans rfl
theorem u__law_like {k : Nat} (hk : 3 ≤ k) {st : Stor} {a0 a1 : SV} : run defs k 30 [a0, a1] st = fin st.length (b__law_like (run defs (k - 1)) (run defs (k - 3)) [some a0, some a1, none, none, none] st) := (run_k hk (show defs[30]? = some d__law_like from rfl) [a0, a1] st).trans rfl
theorem u__law_letters {k : Nat} (hk : 3 ≤ k) {st : Stor} {a0 : SV} : run defs k 31 [a0] st = fin st.length (b__law_letters (run defs (k - 1)) (run defs (k - 3)) [some a0, none, none, none, none] st) := (run_k hk (show defs[31]? = some d__law_letters from rfl) [a0] st).trans rfl
theorem u__law_word {k : Nat} (hk : 3 ≤ k) {st : Stor} {a0 a1 a2 : SV} : run defs k 32 [a0, a1, a2] st = fin st.length (b__law_word (run defs (k - 1)) (run defs (k - 3)) [some a0, some a1, some a2, none, none] st) := (run_k hk (show defs[32]? = some d__law_word from rfl) [a0, a1, a2] st).trans rfl
theorem u__law_free {k : Nat} (hk : 3 ≤ k) {st : Stor} {a0 a1 a2 : SV} : run defs k 33 [a0, a1, a2] st = fin st.length (b__law_free (run defs (k - 1)) (run defs (k - 3)) [some a0, some a1, some a2, none] st) := (run_k hk (show defs[33]? = some d__law_free from rfl) [a0, a1, a2] st).trans rfl
theorem u__law_class {k : Nat} (hk : 3 ≤ k) {st : Stor} {a0 a1 : SV} : run defs k 34 [a0, a1] st = fin st.length (b__law_class (run defs (k - 1)) (run defs (k - 3)) [some a0, some a1, none, none, none, none, none, none, none] st) := (run_k hk (show defs[34]? = some d__law_class from rfl) [a0, a1] st).trans rfl
theorem u__law_order {k : Nat} (hk : 3 ≤ k) {st : Stor} {a0 : SV} : run defs k 35 [a0] st = fin st.length (b__law_order (run defs (k - 1)) (run defs (k - 3)) [some a0, none] st) := (run_k hk (show defs[35]? = some d__law_order from rfl) [a0] st).trans rfl
theorem u__law_reduced {k : Nat} (hk : 3 ≤ k) {st : Stor} {a0 a1 : SV} : run defs k 36 [a0, a1] st = fin st.length (b__law_reduced (run defs (k - 1)) (run defs (k - 3)) [some a0, some a1, none, none, none, none] st) := (run_k hk (show defs[36]? = some d__law_reduced from rfl) [a0, a1] st).trans rfl
theorem u__law_least {k : Nat} (hk : 3 ≤ k) {st : Stor} {a0 a1 : SV} : run defs k 37 [a0, a1] st = fin st.length (b__law_least (run defs (k - 1)) (run defs (k - 3)) [some a0, some a1, none, none, none] st) := (run_k hk (show defs[37]? = some d__law_least from rfl) [a0, a1] st).trans rfl
theorem u__law_error {k : Nat} (hk : 3 ≤ k) {st : Stor} {a0 : SV} : run defs k 38 [a0] st = fin st.length (b__law_error (run defs (k - 1)) (run defs (k - 3)) [some a0, none, none, none, none, none] st) := (run_k hk (show defs[38]? = some d__law_error from rfl) [a0] st).trans rfl
theorem u__law_no_letters {k : Nat} (hk : 3 ≤ k) {st : Stor} : run defs k 39 [] st = fin st.length (b__law_no_letters (run defs (k - 1)) (run defs (k - 3)) [] st) := (run_k hk (show defs[39]? = some d__law_no_letters from rfl) [] st).trans rfl
theorem u__law_no_words {k : Nat} (hk : 3 ≤ k) {st : Stor} : run defs k 40 [] st = fin st.length (b__law_no_words (run defs (k - 1)) (run defs (k - 3)) [] st) := (run_k hk (show defs[40]? = some d__law_no_words from rfl) [] st).trans rfl
theorem u__law_is_round {k : Nat} (hk : 3 ≤ k) {st : Stor} {a0 a1 : SV} : run defs k 41 [a0, a1] st = fin st.length (b__law_is_round (run defs (k - 1)) (run defs (k - 3)) [some a0, some a1, none] st) := (run_k hk (show defs[41]? = some d__law_is_round from rfl) [a0, a1] st).trans rfl
theorem u__law_back {k : Nat} (hk : 3 ≤ k) {st : Stor} {a0 : SV} : run defs k 42 [a0] st = fin st.length (b__law_back (run defs (k - 1)) (run defs (k - 3)) [some a0, none] st) := (run_k hk (show defs[42]? = some d__law_back from rfl) [a0] st).trans rfl
theorem u__law_quick {k : Nat} (hk : 3 ≤ k) {st : Stor} {a0 a1 : SV} : run defs k 43 [a0, a1] st = fin st.length (b__law_quick (run defs (k - 1)) (run defs (k - 3)) [some a0, some a1, none, none, none, none, none, none, none, none, none, none, none] st) := (run_k hk (show defs[43]? = some d__law_quick from rfl) [a0, a1] st).trans rfl
theorem u__law_word_right {k : Nat} (hk : 3 ≤ k) {st : Stor} {a0 a1 a2 : SV} : run defs k 44 [a0, a1, a2] st = fin st.length (b__law_word_right (run defs (k - 1)) (run defs (k - 3)) [some a0, some a1, some a2, none, none, none, none, none, none, none, none, none, none] st) := (run_k hk (show defs[44]? = some d__law_word_right from rfl) [a0, a1, a2] st).trans rfl
theorem u__law_errors {k : Nat} (hk : 3 ≤ k) {st : Stor} : run defs k 45 [] st = fin st.length (b__law_errors (run defs (k - 1)) (run defs (k - 3)) [none, none, none, none] st) := (run_k hk (show defs[45]? = some d__law_errors from rfl) [] st).trans rfl
theorem u_law {k : Nat} (hk : 3 ≤ k) {st : Stor} {a0 : SV} : run defs k 46 [a0] st = fin st.length (b_law (run defs (k - 1)) (run defs (k - 3)) [some a0, none, none, none, none, none, none, none, none] st) := (run_k hk (show defs[46]? = some d_law from rfl) [a0] st).trans rfl
theorem defs_ok : ∀ d ∈ defs, d.Ok prg := by
  intro d hd
  simp only [defs, List.mem_cons, List.not_mem_nil, or_false] at hd
  rcases hd with rfl | rfl | rfl | rfl | rfl | rfl | rfl | rfl | rfl | rfl | rfl | rfl | rfl | rfl | rfl | rfl | rfl | rfl | rfl | rfl | rfl | rfl | rfl | rfl | rfl | rfl | rfl | rfl | rfl | rfl | rfl | rfl | rfl | rfl | rfl | rfl | rfl | rfl | rfl | rfl | rfl | rfl | rfl | rfl | rfl | rfl | rfl
  · exact ok_is_whole
  · exact ok_is_tuple_of
  · exact ok_is_pair
  · exact ok_is_letters
  · exact ok_need_letters
  · exact ok_is_free
  · exact ok_is_signed
  · exact ok_is_turned_of
  · exact ok_need_turned
  · exact ok_may_pass
  · exact ok_key_of
  · exact ok_meeting_place
  · exact ok_reduced_in
  · exact ok_front_places
  · exact ok_ordered_in
  · exact ok_least_in
  · exact ok_back_in
  · exact ok_end_places
  · exact ok_outer_places
  · exact ok_round_in
  · exact ok_is_round_in
  · exact ok_shows_round
  · exact ok_is_round
  · exact ok_round_of
  · exact ok_is_round_of
  · exact ok_round_length
  · exact ok__law_cup
  · exact ok__law_roll
  · exact ok__law_some
  · exact ok__law_sort
  · exact ok__law_like
  · exact ok__law_letters
  · exact ok__law_word
  · exact ok__law_free
  · exact ok__law_class
  · exact ok__law_order
  · exact ok__law_reduced
  · exact ok__law_least
  · exact ok__law_error
  · exact ok__law_no_letters
  · exact ok__law_no_words
  · exact ok__law_is_round
  · exact ok__law_back
  · exact ok__law_quick
  · exact ok__law_word_right
  · exact ok__law_errors
  · exact ok_law
end DLk41

namespace DLk41
open PySem L2 DL
/-- the kind's number -/
def kind : D → Int
  | .non => 0
  | .bl _ => 1
  | .int _ => 2
  | .str _ => 3
  | .tup _ => 4
  | .lst _ => 5
  | _ => 6
theorem r_sort {k : Nat} (hk : 3 ≤ k) {n : Nat} {d : D} (hd : d.okd n = true) (st : Stor) : run defs k 29 [.d d] st = .ok (.d (.int (kind d))) st := by
  rw [u__law_sort hk]
  cases d <;> first | (simp [b__law_sort, kind]; done) | (cases n <;> simp [D.okd] at hd)
/-- equal data are alike -/
theorem r_like : ∀ {n k : Nat} {d : D} (st : Stor), n + 6 ≤ k → d.okd n = true → d.fit = true → n ≤ 60 → run defs k 30 [.d d, .d d] st = .ok (.d (.bl true)) st := by
  intro n
  induction n with
  | zero =>
    intro k d st hk hd hf _
    rw [u__law_like (by omega)]
    have hs := r_sort (k := k - 1) (by omega) hd st
    cases d with
    | str s => simp only [okd_str] at hd; simp [b__law_like, hs, kind, hd]
    | tup l => simp [D.okd] at hd
    | lst l => simp [D.okd] at hd
    | fn l => simp [D.okd] at hd
    | scr l => simp [D.okd] at hd
    | _ => simp [b__law_like, hs, kind]
  | succ n ih =>
    intro k d st hk hd hf hn
    rw [u__law_like (by omega)]
    have hs := r_sort (k := k - 1) (by omega) hd st
    have hz : ∀ l : List D, D.okL n l = true → D.fitL l = true → ∀ env : Envi, 5 = env.length → lcGo (lcStep (tT 2 (DL.tCons (tN 3) (DL.tCons (tN 4) DL.tNil))) (bNot (bV (eCall (run defs (k - 1)) 30 (DL.gCons (eV 3) (DL.gCons (eV 4) DL.gNil))))) (eC (.int 1)) env) (pairsD l l) st = .ok [] st := fun l hl hfl env henv => by
      rw [zip_self, lcGo_pure (g := fun _ => none)]
      · simp
      · intro x hx
        have hr := ih (k := k - 1) st (by omega) (okL_iff.mp hl x hx) (fitL_iff.mp hfl x hx) (by omega)
        match env, henv with
        | [e0, e1, e2, e3, e4], _ =>
          refine lcStep_no (env1 := [e0, e1, e2, some (.d x), some (.d x)]) (by simp) ?_
          simp [hr]
    cases d with
    | tup l =>
      simp only [okd_tup] at hd
      simp only [fit_tup, Bool.and_eq_true, decide_eq_true_eq] at hf
      have hl := pairs_len (l := l) (m := l)
      simp [b__law_like, hs, kind, hz l hd hf.2, show (pairsD l l).length ≤ 16777216 by omega]
    | lst l =>
      simp only [okd_lst] at hd
      simp only [fit_lst, Bool.and_eq_true, decide_eq_true_eq] at hf
      have hl := pairs_len (l := l) (m := l)
      simp [b__law_like, hs, kind, hz l hd hf.2, show (pairsD l l).length ≤ 16777216 by omega]
    | str s => simp only [okd_str] at hd; simp [b__law_like, hs, kind, hd]
    | fn l => simp [D.okd] at hd
    | scr l => simp [D.okd] at hd
    | _ => simp [b__law_like, hs, kind]

/-! ### the cup -/
def Cup (st : Stor) : Prop := ∃ a b : Int, st = [.lst [.int a, .int b]] ∧ 0 ≤ a ∧ 0 ≤ b
theorem log_small {n : Int} (h0 : 0 ≤ n) (h : n < 18446744073709551616) : n.natAbs.log2 < 9000 := by
  rcases Nat.eq_zero_or_pos n.natAbs with e | e
  · rw [e]; decide
  · refine (Nat.log2_lt (by omega)).mpr (Nat.lt_of_lt_of_le (m := 2 ^ 64) ?_ (Nat.pow_le_pow_right (by decide) (by decide)))
    have : (2 : Nat) ^ 64 = 18446744073709551616 := by decide
    omega
theorem r_roll {k : Nat} (hk : 3 ≤ k) {many : Int} (h1 : 0 < many) (h2 : many < 1000000) {st : Stor} (hc : Cup st) : ∃ r st', run defs k 27 [.r 0, .d (.int many)] st = .ok (.d (.int r)) st' ∧ 0 ≤ r ∧ r < many ∧ Cup st' := by
  obtain ⟨a, b, rfl, ha, hb⟩ := hc
  rw [u__law_roll hk]
  have hl := log_small (n := many) (by omega) (by omega)
  by_cases h : 0 < a
  · refine ⟨a % many, [.lst [.int (a / many), .int b]], ?_, Int.emod_nonneg _ (by omega), Int.emod_lt_of_pos _ h1, _, _, rfl, Int.ediv_nonneg ha (by omega), hb⟩
    simp [b__law_roll, h, dMod_ii h1, dFdiv_ii h1 hl, sSub]
  · refine ⟨((b * 25349 + 52501) % 1048576 / 151) % many, [.lst [.int a, .int ((b * 25349 + 52501) % 1048576)]], ?_, Int.emod_nonneg _ (by omega), Int.emod_lt_of_pos _ h1, _, _, rfl, ha, Int.emod_nonneg _ (by omega)⟩
    simp [b__law_roll, h, dMod_ii h1, dMod_ii (show (0 : Int) < 1048576 by decide), dFdiv_ii (show (0 : Int) < 151 by decide) (by decide), dMul_ii (okMul_r (show (25349 : Int).natAbs < _ by decide)), sSub]

theorem r_cup {k : Nat} (hk : 3 ≤ k) (ns : List Int) (h : ns.length ≤ 63) : ∃ a b : Int, run defs k 26 [.d (.scr ns)] [] = .ok (.n [.int a, .int b]) [] ∧ 0 ≤ a ∧ 0 ≤ b := by
  rw [u__law_cup hk]
  obtain ⟨c, hcc⟩ : ∃ c : Int, atI (ns.map D.int ++ [D.int 0]) 0 = some (.int c) := by
    cases ns with
    | nil => exact ⟨0, by simp⟩
    | cons n ns => exact ⟨n, by simp⟩
  obtain ⟨e, he, h0⟩ : ∃ e : Int, e = (if c < 0 then -c else c) ∧ 0 ≤ e := ⟨_, rfl, by split <;> omega⟩
  have hm := dMod_ii (st := []) (i := e * 1103 + 101747) (show (0 : Int) < 1048576 by decide)
  have hf := dFdiv_ii (st := []) (i := e) (show (0 : Int) < 331 by decide) (by decide)
  have hu := dMul_ii (st := []) (i := e) (okMul_r (show (1103 : Int).natAbs < _ by decide))
  by_cases h1 : 1000000000000000000 ≤ e
  · exact ⟨e / 331, (e * 1103 + 101747) % 1048576, by simp [b__law_cup, hcc, ← he, hm, hf, hu, h1, show ns.length + 1 ≤ 16777216 by omega, dPow], Int.ediv_nonneg h0 (by decide), Int.emod_nonneg _ (by decide)⟩
  · exact ⟨0, (e * 1103 + 101747) % 1048576, by simp [b__law_cup, hcc, ← he, hm, hf, hu, h1, show ns.length + 1 ≤ 16777216 by omega, dPow], by decide, Int.emod_nonneg _ (by decide)⟩

theorem r_some {k : Nat} (hk : 6 ≤ k) {l : List D} (h0 : l ≠ []) (h1 : l.length < 1000000) {st : Stor} (hc : Cup st) : ∃ d st', run defs k 28 [.r 0, .d (.lst l)] st = .ok (.d d) st' ∧ d ∈ l ∧ Cup st' := by
  have hp : 0 < l.length := List.length_pos_iff.mpr h0
  obtain ⟨r, st', e, r1, r2, c⟩ := r_roll (k := k - 1) (by omega) (many := (l.length : Int)) (by omega) (by omega) hc
  obtain ⟨i, rfl⟩ : ∃ i : Nat, r = (i : Int) := ⟨r.toNat, by omega⟩
  have hi : i < l.length := by omega
  rw [u__law_some (by omega)]
  refine ⟨l[i], st', ?_, List.getElem_mem hi, c⟩
  obtain ⟨a, b, rfl, _⟩ := hc
  obtain ⟨a', b', rfl, _⟩ := c
  simp [b__law_some, e, atI_n, hi]

end DLk41

namespace DLk41
open PySem L2 DL
/-- is it data (no def, not the script)? -/
def dat : D → Bool
  | .fn _ => false
  | .scr _ => false
  | _ => true
theorem okd_dat {n : Nat} {d : D} (h : d.okd n = true) : dat d = true := by
  cases d with
  | fn i => cases n <;> simp [D.okd] at h
  | scr i => cases n <;> simp [D.okd] at h
  | _ => rfl
def isW (d : D) (lo hi : Int) : Bool := match d with
  | .int v => decide (lo ≤ v) && decide (v ≤ hi)
  | _ => false
def isT_ (d : D) (lo hi : Int) : Bool := match d with
  | .tup l => decide (lo ≤ (l.length : Int)) && decide ((l.length : Int) ≤ hi)
  | _ => false
theorem r_whole {k : Nat} (hk : 3 ≤ k) {d : D} (h : dat d = true) (lo hi : Int) (st : Stor) : run defs k 0 [.d d, .d (.int lo), .d (.int hi)] st = .ok (.d (.bl (isW d lo hi))) st := by
  rw [u_is_whole hk]
  cases d with
  | int v =>
    by_cases h1 : lo ≤ v
    · by_cases h2 : v ≤ hi <;> simp [b_is_whole, isW, h1, h2]
    · simp [b_is_whole, isW, h1]
  | fn i => simp [dat] at h
  | scr i => simp [dat] at h
  | _ => simp [b_is_whole, isW]
theorem r_tupof {k : Nat} (hk : 3 ≤ k) {d : D} (h : dat d = true) (lo hi : Int) (st : Stor) : run defs k 1 [.d d, .d (.int lo), .d (.int hi)] st = .ok (.d (.bl (isT_ d lo hi))) st := by
  rw [u_is_tuple_of hk]
  cases d with
  | tup l =>
    by_cases h1 : lo ≤ (l.length : Int)
    · by_cases h2 : (l.length : Int) ≤ hi <;> simp [b_is_tuple_of, isT_, h1, h2]
    · simp [b_is_tuple_of, isT_, h1]
  | fn i => simp [dat] at h
  | scr i => simp [dat] at h
  | _ => simp [b_is_tuple_of, isT_]
theorem blsOf_map {α : Type} {f : α → Bool} : ∀ {l : List α}, blsOf (l.map fun x => D.bl (f x)) = some (l.map f)
  | [] => rfl
  | x :: l => by simp [blsOf, blsOf_map (l := l)]
theorem all_id {α : Type} {f : α → Bool} : ∀ {l : List α}, (l.map f).all id = l.all f
  | [] => rfl
  | x :: l => by simp [all_id (l := l)]
/-- a pair of letters -/
def isPr (m : Int) (d : D) : Bool := match d with
  | .tup [.int a, .int b] => decide (0 ≤ a) && decide (a ≤ m - 1) && (decide (0 ≤ b) && decide (b ≤ m - 1)) && decide (a < b)
  | _ => false
theorem isT_22 {x y : D} : isT_ (.tup [x, y]) 2 2 = true := rfl
theorem r_pair {k : Nat} (hk : 6 ≤ k) {n : Nat} {d : D} (h : d.okd n = true) (m : Int) (st : Stor) : run defs k 2 [.d (.int m), .d d] st = .ok (.d (.bl (isPr m d))) st := by
  rw [u_is_pair (by omega)]
  have ht := @r_tupof (k - 1) (by omega) d (okd_dat h) 2 2
  by_cases h2 : isT_ d 2 2 = true
  case neg =>
    have : isPr m d = false := by
      unfold isPr
      split
      · simp [isT_] at h2
      · rfl
    simp [b_is_pair, ht, h2, this]
  cases d with
  | tup l =>
    match l, n, h with
    | [x, y], n + 1, h =>
      simp only [okd_tup, okL_cons, okL_nil, Bool.and_true, Bool.and_eq_true] at h
      have hl : ∀ st, lcGo (lcStep (tN 2) bYes (eCall (run defs (k - 1)) 0 (DL.gCons (eV 2) (DL.gCons (eC (.int 0)) (DL.gCons (eOp dSub (eV 0) (eC (.int 1))) DL.gNil)))) [some (.d (.int m)), some (.d (.tup [x, y])), none]) ([x, y].map id) st = .ok ([x, y].map fun d => D.bl (isW d 0 (m - 1))) st := fun st =>
        lcGo_map fun e he => by
          have hd : dat e = true := by
            simp at he
            rcases he with rfl | rfl
            · exact okd_dat h.1
            · exact okd_dat h.2
          exact lcStep_eq (env1 := [some (.d (.int m)), some (.d (.tup [x, y])), some (.d e)]) (st1 := st) (st2 := st) (w := .d (.bl (isW e 0 (m - 1)))) (by simp) (by simp) (by simp [@r_whole (k - 1) (by omega) e hd 0 (m - 1)]) rfl
      simp only [List.map_id] at hl
      have hb := blsOf_map (l := [x, y]) (f := fun d => isW d 0 (m - 1))
      simp only [List.map_cons, List.map_nil] at hl hb
      by_cases h3 : isW x 0 (m - 1) = true
      · by_cases h4 : isW y 0 (m - 1) = true
        · obtain ⟨a, rfl⟩ : ∃ a, x = .int a := by cases x <;> first | exact ⟨_, rfl⟩ | simp [isW] at h3
          obtain ⟨b, rfl⟩ : ∃ b, y = .int b := by cases y <;> first | exact ⟨_, rfl⟩ | simp [isW] at h4
          have e0 : isPr m (.tup [.int a, .int b]) = decide (a < b) := by
            show (decide (0 ≤ a) && decide (a ≤ m - 1) && (decide (0 ≤ b) && decide (b ≤ m - 1)) && decide (a < b)) = _
            have h3' : (decide (0 ≤ a) && decide (a ≤ m - 1)) = true := h3
            have h4' : (decide (0 ≤ b) && decide (b ≤ m - 1)) = true := h4
            rw [h3', h4']
            rfl
          rw [e0]
          simp only [h3, h4] at hl hb
          simp only [b_is_pair]
          simp [ht, isT_, hl, dAll, hb]
        · have e0 : isPr m (.tup [x, y]) = false := by
            unfold isPr
            split
            · rename_i a b e
              simp only [D.tup.injEq, List.cons.injEq, and_true] at e
              obtain ⟨rfl, rfl⟩ := e
              simp only [isW] at h4
              simp [h4]
            · rfl
          have h4 : isW y 0 (m - 1) = false := by simpa using h4
          rw [e0]
          simp only [h3, h4] at hl hb
          simp only [b_is_pair]
          simp [ht, isT_, hl, dAll, hb]
      · have e0 : isPr m (.tup [x, y]) = false := by
          unfold isPr
          split
          · rename_i a b e
            simp only [D.tup.injEq, List.cons.injEq, and_true] at e
            obtain ⟨rfl, rfl⟩ := e
            simp only [isW] at h3
            simp [h3]
          · rfl
        have h3 : isW x 0 (m - 1) = false := by simpa using h3
        rw [e0]
        simp only [h3] at hl hb
        simp only [b_is_pair]
        simp [ht, isT_, hl, dAll, hb]
    | [], _, _ => simp [isT_] at h2
    | [x], _, _ => simp [isT_] at h2
    | x :: y :: z :: l, _, _ => simp [isT_] at h2; omega
    | [x, y], 0, h => simp [D.okd] at h
  | _ => simp [isT_] at h2
/-! ### letters judged -/
def mkQ (q : Int × Int) : D := .tup [.int q.1, .int q.2]
def ltQ (p q : Int × Int) : Bool := if p.1 = q.1 then decide (p.2 < q.2) else decide (p.1 < q.1)
def ascQ : List (Int × Int) → Bool
  | p :: q :: r => ltQ p q && ascQ (q :: r)
  | _ => true
def unP : D → Int × Int
  | .tup [.int a, .int b] => (a, b)
  | _ => (0, 0)
theorem isPr_unP {m : Int} {d : D} (h : isPr m d = true) : d = mkQ (unP d) := by
  unfold isPr at h
  split at h
  · rfl
  · cases h
theorem prs_map {m : Int} : ∀ {ps : List D}, ps.all (isPr m) = true → ps = (ps.map unP).map mkQ
  | [], _ => rfl
  | p :: ps, h => by
    simp only [List.all_cons, Bool.and_eq_true] at h
    rw [List.map_cons, List.map_cons, ← isPr_unP h.1, ← prs_map h.2]
def isLet (d : D) : Bool := match d with
  | .tup [.int m, .tup ps] => decide (1 ≤ m) && decide (m ≤ 8) && decide (ps.length ≤ 64) && (ps.all (isPr m) && ascQ (ps.map unP))
  | _ => false
theorem ascQ_range : ∀ (qs : List (Int × Int)), ((List.range (qs.length - 1)).all fun i => ltQ (qs.getD i (0, 0)) (qs.getD (i + 1) (0, 0))) = ascQ qs
  | [] => rfl
  | [_] => rfl
  | p :: q :: r => by
    have ih := ascQ_range (q :: r)
    simp only [List.length_cons, Nat.add_sub_cancel] at ih ⊢
    rw [List.range_succ_eq_map, List.all_cons, List.all_map, ascQ, ← ih]
    rfl
theorem dLt_qq {st : Stor} {p q : Int × Int} : dLt st (.d (mkQ p)) (.d (mkQ q)) = some (.d (.bl (ltQ p q))) := by
  obtain ⟨a, b⟩ := p
  obtain ⟨c, d⟩ := q
  show some (W.d (D.bl (HT.lexLt [a, b] [c, d]))) = _
  unfold ltQ
  rw [HT.lexLt_cons, HT.lexLt_cons, HT.lexLt_nil_nil]
  by_cases h1 : a = c
  · by_cases h2 : b = d
    · simp [h1, h2]
    · simp [h1, h2]
  · simp [h1]
theorem r_letters {k : Nat} (hk : 9 ≤ k) {n : Nat} {d : D} (h : d.okd n = true) (st : Stor) : run defs k 3 [.d d] st = .ok (.d (.bl (isLet d))) st := by
  rw [u_is_letters (by omega)]
  have ht := @r_tupof (k - 1) (by omega)
  have hw := @r_whole (k - 1) (by omega)
  have hm8 := @dMul_ii st 8 8 (by decide)
  by_cases h2 : isT_ d 2 2 = true
  case neg =>
    have e0 : isLet d = false := by
      unfold isLet
      split
      · simp [isT_] at h2
      · rfl
    have h2 : isT_ d 2 2 = false := by simpa using h2
    rw [e0]
    simp only [b_is_letters]
    simp [ht (okd_dat h), h2]
  cases d with
  | tup l =>
    match l, n, h with
    | [x, y], n + 1, h =>
      simp only [okd_tup, okL_cons, okL_nil, Bool.and_true, Bool.and_eq_true] at h
      by_cases h3 : isW x 1 8 = true
      case neg =>
        have e0 : isLet (.tup [x, y]) = false := by
          unfold isLet
          split
          · rename_i m ps e
            simp only [D.tup.injEq, List.cons.injEq, and_true] at e
            obtain ⟨rfl, rfl⟩ := e
            have h3' : ¬ (decide (1 ≤ m) && decide (m ≤ 8)) = true := h3
            simp [h3']
          · rfl
        have h3 : isW x 1 8 = false := by simpa using h3
        rw [e0]
        simp only [b_is_letters]
        simp [@ht (.tup [x, y]) rfl, isT_22, @hw x (okd_dat h.1), h3]
      obtain ⟨m, rfl⟩ : ∃ m, x = .int m := by cases x <;> first | exact ⟨_, rfl⟩ | simp [isW] at h3
      by_cases h4 : isT_ y 0 64 = true
      case neg =>
        have e0 : isLet (.tup [.int m, y]) = false := by
          unfold isLet
          split
          · rename_i m' ps e
            simp only [D.tup.injEq, List.cons.injEq, and_true] at e
            obtain ⟨_, rfl⟩ := e
            have : ¬ ps.length ≤ 64 := by
              intro z
              simp [isT_] at h4
              omega
            simp [this]
          · rfl
        have h4 : isT_ y 0 64 = false := by simpa using h4
        rw [e0]
        simp only [b_is_letters]
        simp [@ht (.tup [.int m, y]) rfl, isT_22, @hw (.int m) rfl, h3, @ht y (okd_dat h.2), h4, hm8]
      obtain ⟨ps, rfl⟩ : ∃ ps, y = .tup ps := by cases y <;> first | exact ⟨_, rfl⟩ | simp [isT_] at h4
      have hlen : ps.length ≤ 64 := by simp [isT_] at h4; omega
      obtain ⟨n', hn', hps⟩ : ∃ n', n = n' + 1 ∧ D.okL n' ps = true := by
        cases n with
        | zero => simp [D.okd] at h
        | succ n' => exact ⟨n', rfl, by simpa using h.2⟩
      have e0 : isLet (.tup [.int m, .tup ps]) = (ps.all (isPr m) && ascQ (ps.map unP)) := by
        show (decide (1 ≤ m) && decide (m ≤ 8) && decide (ps.length ≤ 64) && (ps.all (isPr m) && ascQ (ps.map unP))) = _
        have h3' : (decide (1 ≤ m) && decide (m ≤ 8)) = true := h3
        rw [h3', decide_eq_true hlen]
        rfl
      rw [e0]
      have hl1 : lcGo (lcStep (tN 1) bYes (eCall (run defs (k - 1)) 2 (DL.gCons (eOp dIx (eV 0) (eC (.int 0))) (DL.gCons (eV 1) DL.gNil))) [some (.d (.tup [.int m, .tup ps])), none, none]) (ps.map id) st = .ok (ps.map fun d => D.bl (isPr m d)) st :=
        lcGo_map fun e he => lcStep_eq (env1 := [some (.d (.tup [.int m, .tup ps])), some (.d e), none]) (st1 := st) (st2 := st) (w := .d (.bl (isPr m e))) (by simp) (by simp) (by simp [@r_pair (k - 1) (by omega) _ e (okL_iff.mp hps e he) m]) rfl
      rw [List.map_id] at hl1
      have hb1 := blsOf_map (l := ps) (f := isPr m)
      have ha1 := all_id (l := ps) (f := isPr m)
      by_cases h5 : ps.all (isPr m) = true
      case neg =>
        have h5 : ps.all (isPr m) = false := by simpa using h5
        rw [h5] at ha1 ⊢
        simp only [b_is_letters]
        simp [@ht (.tup [.int m, .tup ps]) rfl, isT_22, @hw (.int m) rfl, h3, @ht (.tup ps) rfl, h4, hm8, hl1, show ps.length ≤ 16777216 by omega, dAll, hb1, ha1]
      rw [h5] at ha1 ⊢
      have hpq := prs_map h5
      generalize hqs : ps.map unP = qs at hpq ⊢
      subst hpq
      simp only [List.length_map] at hlen
      have hl2 : lcGo (lcStep (tN 2) bYes (eOp dLt (eOp dIx (eOp dIx (eV 0) (eC (.int 1))) (eV 2)) (eOp dIx (eOp dIx (eV 0) (eC (.int 1))) (eOp dAdd (eV 2) (eC (.int 1))))) [some (.d (.tup [.int m, .tup (qs.map mkQ)])), none, none]) ((List.range (qs.length - 1)).map fun i => D.int (i : Nat)) st = .ok ((List.range (qs.length - 1)).map fun i => D.bl (ltQ (qs.getD i (0, 0)) (qs.getD (i + 1) (0, 0)))) st :=
        lcGo_map fun i hi => by
          have hi := List.mem_range.mp hi
          have e1 : atI (qs.map mkQ) (i : Int) = some (mkQ (qs.getD i (0, 0))) := by
            rw [atI_n, List.getElem?_map, List.getElem?_eq_getElem (show i < qs.length by omega), List.getD_eq_getElem?_getD, List.getElem?_eq_getElem (show i < qs.length by omega)]
            rfl
          have e2 : atI (qs.map mkQ) ((i : Int) + 1) = some (mkQ (qs.getD (i + 1) (0, 0))) := by
            rw [show (i : Int) + 1 = ((i + 1 : Nat) : Int) by omega, atI_n, List.getElem?_map, List.getElem?_eq_getElem (show i + 1 < qs.length by omega), List.getD_eq_getElem?_getD, List.getElem?_eq_getElem (show i + 1 < qs.length by omega)]
            rfl
          exact lcStep_eq (env1 := [some (.d (.tup [.int m, .tup (qs.map mkQ)])), none, some (.d (.int i))]) (st1 := st) (st2 := st) (w := .d (.bl (ltQ (qs.getD i (0, 0)) (qs.getD (i + 1) (0, 0))))) (by simp) (by simp) (by simp [e1, e2, dLt_qq]) rfl
      have hb2 := blsOf_map (l := List.range (qs.length - 1)) (f := fun i => ltQ (qs.getD i (0, 0)) (qs.getD (i + 1) (0, 0)))
      have ha2 := all_id (l := List.range (qs.length - 1)) (f := fun i => ltQ (qs.getD i (0, 0)) (qs.getD (i + 1) (0, 0)))
      rw [ascQ_range] at ha2
      simp only [b_is_letters]
      simp [@ht (.tup [.int m, .tup (qs.map mkQ)]) rfl, isT_22, @hw (.int m) rfl, h3, @ht (.tup (qs.map mkQ)) rfl, h4, hm8, hl1, show qs.length ≤ 16777216 by omega, dAll, hb1, ha1, -List.map_map]
      rw [rng1_int (by omega), show ((qs.length : Int) - 1).toNat = qs.length - 1 by omega, rangeD_map]
      simp [hl2, show qs.length - 1 ≤ 16777216 by omega, dAll, hb2, ha2, -List.getD_eq_getElem?_getD]
    | [], _, _ => simp [isT_] at h2
    | [x], _, _ => simp [isT_] at h2
    | x :: y :: z :: l, _, _ => simp [isT_] at h2; omega
    | [x, y], 0, h => simp [D.okd] at h
  | _ => simp [isT_] at h2
end DLk41

namespace DLk41
open PySem L2 DL
/-! ### letters used -/
def mkL (m : Int) (qs : List (Int × Int)) : D := .tup [.int m, .tup (qs.map mkQ)]
@[simp] theorem okL_qs {n : Nat} {qs : List (Int × Int)} : D.okL (n + 1) (qs.map mkQ) = true := by
  rw [okL_iff]
  intro d hd
  obtain ⟨q, _, rfl⟩ := List.mem_map.mp hd
  simp [mkQ]
@[simp] theorem fitL_qs {qs : List (Int × Int)} : D.fitL (qs.map mkQ) = true := by
  rw [fitL_iff]
  intro d hd
  obtain ⟨q, _, rfl⟩ := List.mem_map.mp hd
  simp [mkQ]
theorem okd_L {n : Nat} {m : Int} {qs : List (Int × Int)} : D.okd (n + 3) (mkL m qs) = true := by simp [mkL]
theorem any_qs {a b : Int} : ∀ {qs : List (Int × Int)}, ((qs.map mkQ).any fun z => D.eqv z (.tup [.int a, .int b])) = decide ((a, b) ∈ qs)
  | [] => rfl
  | q :: qs => by
    have ih := any_qs (a := a) (b := b) (qs := qs)
    obtain ⟨c, d⟩ := q
    simp only [List.map_cons, List.any_cons, ih, List.mem_cons, mkQ, eqv_tt, eqvL_cons, eqv_ii, eqvL_nil, Bool.and_true, Prod.mk.injEq, Bool.decide_or, Bool.decide_and]
    congr 1
    by_cases h1 : a = c <;> by_cases h2 : b = d <;> simp [h1, h2, eq_comm]
def freeQ (qs : List (Int × Int)) (a b : Int) : Bool := if a < b then decide ((a, b) ∈ qs) else decide ((b, a) ∈ qs)
theorem freeQ_comm {qs : List (Int × Int)} (h : ∀ q ∈ qs, q.1 < q.2) (a b : Int) : freeQ qs a b = freeQ qs b a := by
  unfold freeQ
  by_cases h1 : a < b
  · rw [if_pos h1, if_neg (by omega)]
  · by_cases h2 : b < a
    · rw [if_neg h1, if_pos h2]
    · have : a = b := by omega
      subst this
      rfl
theorem r_free {k : Nat} (hk : 3 ≤ k) (m : Int) (qs : List (Int × Int)) (a b : Int) (st : Stor) : run defs k 5 [.d (mkL m qs), .d (.int a), .d (.int b)] st = .ok (.d (.bl (freeQ qs a b))) st := by
  rw [u_is_free hk]
  unfold mkL freeQ
  by_cases h : a < b
  · simp [b_is_free, h, any_qs, -List.any_map]
  · simp [b_is_free, h, any_qs, -List.any_map]
theorem r_need {k : Nat} (hk : 12 ≤ k) {m : Int} {qs : List (Int × Int)} (h : isLet (mkL m qs) = true) (st : Stor) : run defs k 4 [.d (mkL m qs)] st = .ok (.d .non) st := by
  rw [u_need_letters (by omega)]
  simp [b_need_letters, @r_letters (k - 1) (by omega) 3 _ okd_L, h]
def isWd (m : Int) (d : D) : Bool := match d with
  | .tup l => decide ((l.length : Int) ≤ 60) && l.all fun x => isW x 0 (m - 1)
  | _ => false
end DLk41

namespace DLk41
open PySem L2 DL
/-! ### letters drawn -/
theorem ascQ_snoc {p : Int × Int} : ∀ {qs : List (Int × Int)}, ascQ qs = true → (∀ q ∈ qs, ltQ q p = true) → ascQ (qs ++ [p]) = true
  | [], _, _ => rfl
  | [q], _, h => by simpa [ascQ] using h q (by simp)
  | q :: r :: l, h1, h2 => by
    simp only [ascQ, Bool.and_eq_true] at h1
    have := ascQ_snoc (qs := r :: l) h1.2 fun x hx => h2 x (List.mem_cons_of_mem _ hx)
    simp only [List.cons_append, ascQ, Bool.and_eq_true]
    exact ⟨h1.1, this⟩
/-- pairs drawn before (a, b) -/
structure Drawn (m : Int) (a b : Int) (qs : List (Int × Int)) : Prop where
  prs : ∀ q ∈ qs, 0 ≤ q.1 ∧ q.1 < q.2 ∧ q.2 < m
  asc : ascQ qs = true
  low : ∀ q ∈ qs, q.1 < a ∨ (q.1 = a ∧ q.2 < b)
structure GoodL (m : Int) (qs : List (Int × Int)) : Prop where
  m1 : 1 ≤ m
  m8 : m ≤ 8
  len : qs.length ≤ 64
  prs : ∀ q ∈ qs, 0 ≤ q.1 ∧ q.1 < q.2 ∧ q.2 < m
  asc : ascQ qs = true
theorem unP_mkQ : ∀ {qs : List (Int × Int)}, (qs.map mkQ).map unP = qs
  | [] => rfl
  | q :: qs => by rw [List.map_cons, List.map_cons, unP_mkQ]; rfl
theorem isPr_mkQ {m : Int} {q : Int × Int} : isPr m (mkQ q) = decide (0 ≤ q.1 ∧ q.1 < q.2 ∧ q.2 < m) := by
  simp only [mkQ, isPr]
  rw [Bool.eq_iff_iff]
  simp only [Bool.and_eq_true, decide_eq_true_eq]
  omega
theorem isLet_mkL {m : Int} {qs : List (Int × Int)} : isLet (mkL m qs) = (decide (1 ≤ m) && decide (m ≤ 8) && decide (qs.length ≤ 64) && ((qs.all fun q => decide (0 ≤ q.1 ∧ q.1 < q.2 ∧ q.2 < m)) && ascQ qs)) := by
  simp only [mkL, isLet, unP_mkQ, List.length_map, List.all_map]
  congr 3
  funext q
  exact isPr_mkQ
theorem GoodL.is {m : Int} {qs : List (Int × Int)} (g : GoodL m qs) : isLet (mkL m qs) = true := by
  rw [isLet_mkL, decide_eq_true g.m1, decide_eq_true g.m8, decide_eq_true g.len, g.asc]
  simpa using g.prs
theorem r_rollr {k : Nat} (hk : 3 ≤ k) {many : Int} (h1 : 0 < many) (h2 : many < 1000000) {a b : Int} (ha : 0 ≤ a) (hb : 0 ≤ b) (rest : Stor) : ∃ r a' b', run defs k 27 [.r 0, .d (.int many)] (.lst [.int a, .int b] :: rest) = .ok (.d (.int r)) (.lst [.int a', .int b'] :: rest) ∧ 0 ≤ r ∧ r < many ∧ 0 ≤ a' ∧ 0 ≤ b' := by
  rw [u__law_roll hk]
  have hl := log_small (n := many) (by omega) (by omega)
  by_cases h : 0 < a
  · refine ⟨a % many, a / many, b, ?_, Int.emod_nonneg _ (by omega), Int.emod_lt_of_pos _ h1, Int.ediv_nonneg ha (by omega), hb⟩
    simp [b__law_roll, h, dMod_ii h1, dFdiv_ii h1 hl, sSub]
  · refine ⟨((b * 25349 + 52501) % 1048576 / 151) % many, a, (b * 25349 + 52501) % 1048576, ?_, Int.emod_nonneg _ (by omega), Int.emod_lt_of_pos _ h1, ha, Int.emod_nonneg _ (by omega)⟩
    simp [b__law_roll, h, dMod_ii h1, dMod_ii (show (0 : Int) < 1048576 by decide), dFdiv_ii (show (0 : Int) < 151 by decide) (by decide), dMul_ii (okMul_r (show (25349 : Int).natAbs < _ by decide)), sSub]
theorem cup_take {st st' : Stor} (h : Cup st) (h' : Cup st') : List.take st.length st' = st' := by
  obtain ⟨_, _, rfl, _⟩ := h
  obtain ⟨_, _, rfl, _⟩ := h'
  rfl
end DLk41

namespace DLk41
open PySem L2 DL
theorem drawn_row {r : Int} {i : Nat} {qs : List (Int × Int)} (hd : Drawn (1 + r) i 0 qs) {l : List Nat} (hs : l.Sublist (List.range (1 + r - (i + 1)).toNat)) : Drawn (1 + r) (i + 1) 0 (qs ++ l.map fun j : Nat => ((i : Int), (i : Int) + 1 + (j : Int))) := by
  have key : ∀ (l : List Nat), l.Pairwise (· < ·) → (∀ j ∈ l, (j : Int) < 1 + r - (i + 1)) → ∀ qs : List (Int × Int), ascQ qs = true → (∀ q ∈ qs, 0 ≤ q.1 ∧ q.1 < q.2 ∧ q.2 < 1 + r) → (∀ q ∈ qs, q.1 < i ∨ (q.1 = i ∧ ∀ j ∈ l, q.2 < i + 1 + (j : Int))) → ascQ (qs ++ l.map fun j : Nat => ((i : Int), (i : Int) + 1 + (j : Int))) = true ∧ (∀ q ∈ qs ++ l.map fun j : Nat => ((i : Int), (i : Int) + 1 + (j : Int)), 0 ≤ q.1 ∧ q.1 < q.2 ∧ q.2 < 1 + r) := by
    intro l
    induction l with
    | nil => intro _ _ qs h1 h2 _; simpa using ⟨h1, fun a b => h2 (a, b)⟩
    | cons j l ih =>
      intro hp hb qs h1 h2 h3
      rw [List.pairwise_cons] at hp
      have e : qs ++ (j :: l).map (fun j : Nat => ((i : Int), (i : Int) + 1 + (j : Int))) = (qs ++ [((i : Int), (i : Int) + 1 + (j : Int))]) ++ l.map fun j : Nat => ((i : Int), (i : Int) + 1 + (j : Int)) := by simp
      rw [e]
      have hj := hb j (by simp)
      refine ih hp.2 (fun z hz => hb z (List.mem_cons_of_mem _ hz)) _ (ascQ_snoc h1 fun q hq => ?_) (fun q hq => ?_) (fun q hq => ?_)
      · rcases h3 q hq with h | ⟨h, h'⟩
        · unfold ltQ; split <;> simp <;> omega
        · have := h' j (by simp)
          unfold ltQ; split <;> simp <;> omega
      · rcases List.mem_append.mp hq with hq | hq
        · exact h2 q hq
        · rw [List.mem_singleton.mp hq]
          dsimp only
          omega
      · rcases List.mem_append.mp hq with hq | hq
        · rcases h3 q hq with h | ⟨h, h'⟩
          · exact .inl h
          · exact .inr ⟨h, fun z hz => h' z (List.mem_cons_of_mem _ hz)⟩
        · rw [List.mem_singleton.mp hq]
          refine .inr ⟨rfl, fun z hz => ?_⟩
          have := hp.1 z hz
          dsimp only
          omega
  have hp : l.Pairwise (· < ·) := List.Pairwise.sublist hs List.pairwise_lt_range
  have hb : ∀ j ∈ l, (j : Int) < 1 + r - (i + 1) := fun j hj => by
    have := List.mem_range.mp (hs.subset hj)
    omega
  obtain ⟨h1, h2⟩ := key l hp hb qs hd.asc hd.prs (fun q hq => by
    rcases hd.low q hq with h | ⟨h, h'⟩
    · exact .inl h
    · have := hd.prs q hq
      omega)
  refine ⟨h2, h1, fun q hq => ?_⟩
  rcases List.mem_append.mp hq with hq | hq
  · rcases hd.low q hq with h | h <;> omega
  · obtain ⟨j, _, rfl⟩ := List.mem_map.mp hq
    dsimp only
    omega
theorem r_dletters {k : Nat} (hk : 6 ≤ k) {st : Stor} (hc : Cup st) : ∃ m qs st', run defs k 31 [.r 0] st = .ok (.d (mkL m qs)) st' ∧ GoodL m qs ∧ m ≤ 4 ∧ Cup st' := by
  obtain ⟨r, st1, e1, r1, r2, c1⟩ := r_roll (k := k - 1) (by omega) (many := 4) (by omega) (by omega) hc
  rw [u__law_letters (by omega)]
  have tk := fun st' h => cup_take (st := st) (st' := st') hc h
  simp [b__law_letters, e1, rng1_int (n := 1 + r) (by omega), rangeD_0]
  generalize hz : forGo _ _ _ _ _ = z
  obtain ⟨env', st', rfl, ⟨qs, o4, o5, rfl, hd, hl⟩, hc'⟩ := forZi hz (fun (i : Nat) => D.int (i : Int)) (List.range (1 + r).toNat) (by simp) (fun i env st => (∃ (qs : List (Int × Int)) (o4 o5 : Option SV), env = [some (.r 0), some (.d (.int (1 + r))), some (.d (.lst (qs.map mkQ))), o4, o5] ∧ Drawn (1 + r) i 0 qs ∧ qs.length ≤ 8 * i) ∧ Cup st)
    ⟨⟨[], none, none, rfl, ⟨by simp, rfl, by simp⟩, by simp⟩, c1⟩ (by
      rintro i hi env st ⟨⟨qs, o4, o5, rfl, hd, hl⟩, hc⟩
      have hi : i < (1 + r).toNat := by simpa using hi
      refine ⟨_, by simp; rfl, ?_⟩
      simp [rng2_int (n := (i : Int) + 1) (k := 1 + r) (by omega) (by omega), rangeD_map, show 1 + r - ((i : Int) + 1) ≤ 16777216 by omega]
      generalize hz : lcGo _ _ _ = z
      obtain ⟨l', st2, rfl, sub, c2⟩ := lcZ_sub hz (fun j : Nat => .int ((i : Int) + 1 + (j : Int))) (fun j : Nat => mkQ ((i : Int), (i : Int) + 1 + (j : Int))) (List.range (1 + r - (i + 1)).toNat) (by simp) Cup hc (fun j hj st hc => by
        obtain ⟨t, st2, e2, t1, t2, c2⟩ := r_roll (k := k - 1) (by omega) (many := 2) (by omega) (by omega) hc
        exact ⟨decide (t = 0), st2, by by_cases ht : t = 0 <;> simp [lcStep_def, e2, ht, mkQ], c2⟩)
      have ll := sub.length_le
      rw [List.length_range] at ll
      have e : l'.map (fun j : Nat => mkQ ((i : Int), (i : Int) + 1 + (j : Int))) = (l'.map fun j : Nat => ((i : Int), (i : Int) + 1 + (j : Int))).map mkQ := by rw [List.map_map]; rfl
      rw [e]
      have hadd : ∀ st, dAdd st (.d (.lst (qs.map mkQ))) (.n ((l'.map fun j : Nat => ((i : Int), (i : Int) + 1 + (j : Int))).map mkQ)) = some (.n ((qs ++ l'.map fun j : Nat => ((i : Int), (i : Int) + 1 + (j : Int))).map mkQ)) := fun st => by
        rw [dAdd_ln (by rw [List.length_map, List.length_map, List.length_map]; omega), List.map_append]
      exact ⟨_, _, by simp only [bind_ok, hadd, ofO_some]; rfl, ⟨_, ⟨_, _, rfl⟩, drawn_row hd sub, by simp; omega⟩, c2⟩)
  simp only [List.length_range] at hd hl
  refine ⟨1 + r, qs, st', ?_, ⟨by omega, by omega, by omega, hd.prs, hd.asc⟩, by omega, hc'⟩
  simp [mkL, show qs.length ≤ 16777216 by omega, dTuple, W.asL, tk _ hc']
end DLk41

/-! Words whose letters change places: plain lists of Int, `F a b`: may change places. -/
namespace TR
/-- one exchange of neighbours -/
inductive Sw (F : Int → Int → Bool) : List Int → List Int → Prop
  | mk (u : List Int) (a b : Int) (v : List Int) : F a b = true → Sw F (u ++ a :: b :: v) (u ++ b :: a :: v)
/-- reached by at most n exchanges -/
inductive Way (F : Int → Int → Bool) : Nat → List Int → List Int → Prop
  | refl (n : Nat) (w : List Int) : Way F n w w
  | step {n : Nat} {x y z : List Int} : Way F n x y → Sw F y z → Way F (n + 1) x z
def Alike (F : Int → Int → Bool) (x y : List Int) : Prop := ∃ n, Way F n x y
/-- letter a taken to the front -/
def ext (F : Int → Int → Bool) (a : Int) : List Int → Option (List Int)
  | [] => none
  | b :: w => if a = b then some w else if F a b then (ext F a w).map (b :: ·) else none
section
variable {F : Int → Int → Bool}
theorem Way.mono {n m : Nat} {x y : List Int} (h : Way F n x y) (hm : n ≤ m) : Way F m x y := by
  induction h generalizing m with
  | refl n w => exact .refl _ _
  | step h s ih =>
    obtain ⟨m, rfl⟩ : ∃ k, m = k + 1 := ⟨m - 1, by omega⟩
    exact .step (ih (by omega)) s
theorem Way.trans {n m : Nat} {x y z : List Int} (h : Way F n x y) (h' : Way F m y z) : Way F (n + m) x z := by
  induction h' with
  | refl m w => exact h.mono (by omega)
  | step _ s ih => exact .step (ih h) s
theorem Sw.cons (c : Int) {x y : List Int} (h : Sw F x y) : Sw F (c :: x) (c :: y) := by
  cases h with
  | mk u a b v h => exact .mk (c :: u) a b v h
theorem Sw.app (p s : List Int) {x y : List Int} (h : Sw F x y) : Sw F (p ++ x ++ s) (p ++ y ++ s) := by
  cases h with
  | mk u a b v h =>
    have := Sw.mk (p ++ u) a b (v ++ s) h
    simpa using this
theorem Way.app (p s : List Int) {n : Nat} {x y : List Int} (h : Way F n x y) : Way F n (p ++ x ++ s) (p ++ y ++ s) := by
  induction h with
  | refl n w => exact .refl _ _
  | step _ t ih => exact .step ih (t.app p s)
theorem Way.cons (c : Int) {n : Nat} {x y : List Int} (h : Way F n x y) : Way F n (c :: x) (c :: y) := by
  have := h.app [c] []
  simpa using this
theorem Alike.refl (x : List Int) : Alike F x x := ⟨0, .refl _ _⟩
theorem Alike.trans {x y z : List Int} : Alike F x y → Alike F y z → Alike F x z
  | ⟨_, h⟩, ⟨_, h'⟩ => ⟨_, h.trans h'⟩
theorem Alike.cons (c : Int) {x y : List Int} : Alike F x y → Alike F (c :: x) (c :: y)
  | ⟨_, h⟩ => ⟨_, h.cons c⟩
theorem Alike.app {x y x' y' : List Int} (h : Alike F x y) (h' : Alike F x' y') : Alike F (x ++ x') (y ++ y') := by
  obtain ⟨n, h⟩ := h
  obtain ⟨m, h'⟩ := h'
  have h1 := h.app [] x'
  have h2 := h'.app y []
  simp at h1 h2
  exact ⟨_, h1.trans h2⟩
theorem Sw.alike {x y : List Int} (h : Sw F x y) : Alike F x y := ⟨1, .step (.refl 0 _) h⟩
theorem Sw.symm (hs : ∀ a b, F a b = F b a) {x y : List Int} (h : Sw F x y) : Sw F y x := by
  cases h with
  | mk u a b v h => exact .mk u b a v (by rw [hs]; exact h)
theorem Alike.symm (hs : ∀ a b, F a b = F b a) {x y : List Int} (h : Alike F x y) : Alike F y x := by
  obtain ⟨n, h⟩ := h
  induction h with
  | refl n w => exact .refl _
  | step _ s ih => exact ((s.symm hs).alike).trans ih
theorem Sw.perm {x y : List Int} (h : Sw F x y) : x.Perm y := by
  cases h with
  | mk u a b v h => exact .append_left _ (.swap b a v)
theorem Way.perm {n : Nat} {x y : List Int} (h : Way F n x y) : x.Perm y := by
  induction h with
  | refl n w => exact .refl _
  | step _ s ih => exact ih.trans s.perm
theorem Alike.perm {x y : List Int} : Alike F x y → x.Perm y
  | ⟨_, h⟩ => h.perm
theorem Alike.len {x y : List Int} (h : Alike F x y) : x.length = y.length := h.perm.length_eq
/-- what is taken to the front is a way of at most as many exchanges as letters stand before it -/
theorem ext_way (hs : ∀ a b, F a b = F b a) {a : Int} : ∀ {w v : List Int}, ext F a w = some v → Way F v.length w (a :: v) ∧ w.length = v.length + 1
  | [], _, h => by simp [ext] at h
  | b :: w, v, h => by
    unfold ext at h
    split at h
    · rename_i e
      simp only [Option.some.injEq] at h
      subst e h
      exact ⟨.refl _ _, by simp⟩
    · split at h
      · rename_i e hf
        cases hx : ext F a w with
        | none => rw [hx] at h; simp at h
        | some v' =>
          rw [hx] at h
          simp only [Option.map_some, Option.some.injEq] at h
          subst h
          obtain ⟨ih, hl⟩ := ext_way hs hx
          refine ⟨.step (ih.cons b) ?_, by simp [hl]⟩
          exact .mk [] b a v' (by rw [hs]; exact hf)
      · cases h
theorem ext_alike (hs : ∀ a b, F a b = F b a) {a : Int} {w v : List Int} (h : ext F a w = some v) : Alike F w (a :: v) := ⟨_, (ext_way hs h).1⟩
theorem ext_len (hs : ∀ a b, F a b = F b a) {a : Int} {w v : List Int} (h : ext F a w = some v) : w.length = v.length + 1 := (ext_way hs h).2
/-- an exchange keeps what may be taken to the front -/
theorem ext_sw (hs : ∀ a b, F a b = F b a) (hi : ∀ a, F a a = false) {c : Int} {x y : List Int} (h : Sw F x y) {v : List Int} (hx : ext F c x = some v) : ∃ v', ext F c y = some v' ∧ Alike F v v' := by
  cases h with
  | mk u a b w hab =>
    induction u generalizing v with
    | nil =>
      simp only [List.nil_append] at hx ⊢
      have hne : a ≠ b := fun e => by rw [e, hi] at hab; cases hab
      by_cases h1 : c = a
      · subst h1
        simp only [ext, if_pos, Option.some.injEq] at hx
        subst hx
        exact ⟨b :: w, by simp [ext, hne, hab], .refl _⟩
      · by_cases h2 : c = b
        · subst h2
          simp only [ext, if_neg h1] at hx
          split at hx
          · simp only [if_pos, Option.map_some, Option.some.injEq] at hx
            subst hx
            exact ⟨_, by simp [ext], .refl _⟩
          · cases hx
        · simp only [ext, if_neg h1, if_neg h2] at hx ⊢
          split at hx
          · rename_i h3
            split at hx
            · rename_i h4
              cases e : ext F c w with
              | none => rw [e] at hx; simp at hx
              | some v' =>
                rw [e] at hx
                simp only [Option.map_some, Option.some.injEq] at hx
                subst hx
                exact ⟨b :: a :: v', by simp [h3, h4], (Sw.mk [] a b v' hab).alike⟩
            · simp at hx
          · cases hx
    | cons d u ih =>
      simp only [List.cons_append, ext] at hx ⊢
      split at hx
      · rename_i e
        simp only [Option.some.injEq] at hx
        subst hx
        exact ⟨_, by rw [if_pos e], (Sw.mk u a b w hab).alike⟩
      · rename_i e
        split at hx
        · rename_i hf
          cases hx' : ext F c (u ++ a :: b :: w) with
          | none => rw [hx'] at hx; simp at hx
          | some v' =>
            rw [hx'] at hx
            simp only [Option.map_some, Option.some.injEq] at hx
            subst hx
            obtain ⟨v'', e2, al⟩ := ih hx'
            exact ⟨d :: v'', by simp [e, hf, e2], al.cons d⟩
        · cases hx
theorem ext_congr (hs : ∀ a b, F a b = F b a) (hi : ∀ a, F a a = false) {c : Int} {x y : List Int} (h : Alike F x y) {v : List Int} (hx : ext F c x = some v) : ∃ v', ext F c y = some v' ∧ Alike F v v' := by
  obtain ⟨n, h⟩ := h
  induction h with
  | refl n w => exact ⟨v, hx, .refl _⟩
  | step _ s ih =>
    obtain ⟨v1, e1, a1⟩ := ih hx
    obtain ⟨v2, e2, a2⟩ := ext_sw hs hi s e1
    exact ⟨v2, e2, a1.trans a2⟩
/-- the same letter taken from the front of two words alike -/
theorem Alike.uncons (hs : ∀ a b, F a b = F b a) (hi : ∀ a, F a a = false) {c : Int} {x y : List Int} (h : Alike F (c :: x) (c :: y)) : Alike F x y := by
  obtain ⟨v, e, a⟩ := ext_congr hs hi h (c := c) (v := x) (by simp [ext])
  simp only [ext, if_pos, Option.some.injEq] at e
  rw [e]
  exact a
/-! ### the least word -/
/-- the letters that may be taken to the front -/
def firsts (F : Int → Int → Bool) (w : List Int) : List Int := w.filter fun a => (ext F a w).isSome
def least (F : Int → Int → Bool) : Nat → List Int → List Int
  | 0, _ => []
  | n + 1, w => match (firsts F w).min? with
    | none => []
    | some a => a :: least F n ((ext F a w).getD [])
def low (F : Int → Int → Bool) (w : List Int) : List Int := least F w.length w
theorem mem_firsts_of_ext {a : Int} {w v : List Int} : ext F a w = some v → a ∈ w := by
  induction w generalizing v with
  | nil => intro h; simp [ext] at h
  | cons b w ih =>
    intro h
    unfold ext at h
    split at h
    · rename_i e; rw [e]; exact List.mem_cons_self
    · split at h
      · cases hx : ext F a w with
        | none => rw [hx] at h; simp at h
        | some v' => exact List.mem_cons_of_mem _ (ih hx)
      · cases h
theorem mem_firsts {a : Int} {w : List Int} : a ∈ firsts F w ↔ ∃ v, ext F a w = some v := by
  unfold firsts
  rw [List.mem_filter, Option.isSome_iff_exists]
  exact ⟨fun h => h.2, fun ⟨v, h⟩ => ⟨mem_firsts_of_ext h, v, h⟩⟩
theorem min_some {l : List Int} {a : Int} (h : a ∈ l) : ∃ m, l.min? = some m ∧ m ∈ l ∧ ∀ x ∈ l, m ≤ x := by
  cases e : l.min? with
  | none => rw [List.min?_eq_none_iff] at e; rw [e] at h; cases h
  | some m =>
    have := List.min?_eq_some_iff (xs := l) (a := m) |>.mp e
    exact ⟨m, rfl, this.1, this.2⟩
theorem firsts_min {w : List Int} (h : w ≠ []) : ∃ m v, (firsts F w).min? = some m ∧ ext F m w = some v ∧ ∀ x y, ext F x w = some y → m ≤ x := by
  match w, h with
  | b :: w, _ =>
    have hb : b ∈ firsts F (b :: w) := mem_firsts.mpr ⟨w, by simp [ext]⟩
    obtain ⟨m, e, hm, hl⟩ := min_some hb
    obtain ⟨v, hv⟩ := mem_firsts.mp hm
    exact ⟨m, v, e, hv, fun x y hxy => hl x (mem_firsts.mpr ⟨y, hxy⟩)⟩
theorem low_nil : low F [] = [] := rfl
/-- the least word, one letter after another -/
theorem low_step (hs : ∀ a b, F a b = F b a) {w : List Int} (h : w ≠ []) : ∃ m v, (firsts F w).min? = some m ∧ ext F m w = some v ∧ (∀ x y, ext F x w = some y → m ≤ x) ∧ low F w = m :: low F v := by
  obtain ⟨m, v, e, hv, hl⟩ := firsts_min (F := F) h
  refine ⟨m, v, e, hv, hl, ?_⟩
  unfold low
  rw [ext_len hs hv, least, e]
  simp only [hv, Option.getD_some]
def tri : Nat → Nat
  | 0 => 0
  | n + 1 => n + tri n
theorem low_way (hs : ∀ a b, F a b = F b a) : ∀ {n : Nat} {w : List Int}, w.length = n → Way F (tri n) w (low F w)
  | 0, w, h => by
    rw [List.length_eq_zero_iff.mp h]
    exact .refl _ _
  | n + 1, w, h => by
    obtain ⟨m, v, _, hv, _, e⟩ := low_step hs (w := w) (by intro e; rw [e] at h; cases h)
    obtain ⟨h1, h2⟩ := ext_way hs hv
    have hv' : v.length = n := by omega
    rw [hv'] at h1
    rw [e]
    exact h1.trans ((low_way hs hv').cons m)
theorem low_alike (hs : ∀ a b, F a b = F b a) (w : List Int) : Alike F w (low F w) := ⟨_, low_way hs rfl⟩
theorem low_len (hs : ∀ a b, F a b = F b a) (w : List Int) : (low F w).length = w.length := (low_alike hs w).len.symm
theorem low_congr (hs : ∀ a b, F a b = F b a) (hi : ∀ a, F a a = false) : ∀ {n : Nat} {x y : List Int}, x.length = n → Alike F x y → low F x = low F y
  | 0, x, y, hx, h => by
    have hy := h.len
    rw [hx] at hy
    rw [List.length_eq_zero_iff.mp hx, List.length_eq_zero_iff.mp hy.symm]
  | n + 1, x, y, hx, h => by
    have hy := h.len
    obtain ⟨m, v, _, hv, hm, e⟩ := low_step hs (w := x) (by intro e; rw [e] at hx; cases hx)
    obtain ⟨m', v', _, hv', hm', e'⟩ := low_step hs (w := y) (by intro e; rw [e] at hy; rw [hx] at hy; cases hy)
    obtain ⟨u, hu, au⟩ := ext_congr hs hi h hv
    obtain ⟨u', hu', _⟩ := ext_congr hs hi (h.symm hs) hv'
    have e1 := hm _ _ hu'
    have e2 := hm' _ _ hu
    have : m = m' := by omega
    subst this
    rw [hu] at hv'
    cases hv'
    rw [e, e', low_congr (n := n) hs hi (x := v) (by have := ext_len hs hv; omega) au]
theorem low_eq (hs : ∀ a b, F a b = F b a) (hi : ∀ a, F a a = false) {x y : List Int} (h : Alike F x y) : low F x = low F y := low_congr hs hi rfl h
theorem alike_iff (hs : ∀ a b, F a b = F b a) (hi : ∀ a, F a a = false) {x y : List Int} : Alike F x y ↔ low F x = low F y :=
  ⟨low_eq hs hi, fun h => (low_alike hs x).trans (by rw [h]; exact (low_alike hs y).symm hs)⟩
theorem low_low (hs : ∀ a b, F a b = F b a) (hi : ∀ a, F a a = false) (x : List Int) : low F (low F x) = low F x := (low_eq hs hi (low_alike hs x)).symm
theorem low_app (hs : ∀ a b, F a b = F b a) (hi : ∀ a, F a a = false) (x y : List Int) : low F (low F x ++ low F y) = low F (x ++ y) :=
  (low_eq hs hi ((low_alike hs x).app (low_alike hs y))).symm
/-- is it not after it in the order of words? -/
def leW : List Int → List Int → Bool
  | [], _ => true
  | _ :: _, [] => false
  | a :: x, b :: y => if a = b then leW x y else decide (a < b)
theorem low_le (hs : ∀ a b, F a b = F b a) (hi : ∀ a, F a a = false) : ∀ {n : Nat} {x y : List Int}, y.length = n → Alike F x y → leW (low F x) y = true
  | 0, x, y, hy, h => by
    have hx := h.len
    rw [hy] at hx
    rw [List.length_eq_zero_iff.mp hx]
    rfl
  | n + 1, x, b :: y, hy, h => by
    have hx := h.len
    obtain ⟨m, v, _, hv, hm, e⟩ := low_step hs (w := x) (by intro e; rw [e] at hx; cases hx)
    obtain ⟨u, hu, au⟩ := ext_congr hs hi (h.symm hs) (c := b) (v := y) (by simp [ext])
    have := hm _ _ hu
    rw [e, leW]
    split
    · rename_i e
      subst e
      rw [hu] at hv
      cases hv
      exact low_le hs hi (by simpa using hy) (au.symm hs)
    · simp; omega
/-! ### by places -/
def fpl (F : Int → Int → Bool) (w : List Int) : List Nat := (List.range w.length).filter fun i => (w.take i).all fun o => F (w.getD i 0) o
theorem mem_fpl {w : List Int} {i : Nat} : i ∈ fpl F w ↔ i < w.length ∧ ((w.take i).all fun o => F (w.getD i 0) o) = true := by
  unfold fpl
  rw [List.mem_filter, List.mem_range]
theorem fpl_ext (hi : ∀ a, F a a = false) : ∀ {w : List Int} {i : Nat}, i ∈ fpl F w → ext F (w.getD i 0) w = some (w.take i ++ w.drop (i + 1))
  | [], i, h => by simp [fpl] at h
  | b :: w, 0, _ => by simp [ext]
  | b :: w, i + 1, h => by
    rw [mem_fpl] at h
    simp only [List.length_cons, List.take_succ_cons, List.all_cons, Bool.and_eq_true, List.getD_cons_succ] at h
    obtain ⟨h1, h2, h3⟩ := h
    have ih := fpl_ext hi (w := w) (i := i) (mem_fpl.mpr ⟨by omega, h3⟩)
    have hne : w.getD i 0 ≠ b := fun e => by rw [e, hi] at h2; cases h2
    simp only [List.getD_cons_succ, ext, if_neg hne, h2, if_true, ih, Option.map_some, List.take_succ_cons, List.drop_succ_cons, List.cons_append]
theorem ext_fpl {a : Int} : ∀ {w v : List Int}, ext F a w = some v → ∃ i, i ∈ fpl F w ∧ w.getD i 0 = a ∧ v = w.take i ++ w.drop (i + 1)
  | [], v, h => by simp [ext] at h
  | b :: w, v, h => by
    unfold ext at h
    split at h
    · rename_i e
      cases h
      exact ⟨0, mem_fpl.mpr ⟨by simp, by simp⟩, by simp [e], by simp⟩
    · split at h
      · rename_i h1 h2
        cases hx : ext F a w with
        | none => rw [hx] at h; cases h
        | some u =>
          rw [hx] at h
          cases h
          obtain ⟨i, e1, e2, e3⟩ := ext_fpl hx
          rw [mem_fpl] at e1
          refine ⟨i + 1, mem_fpl.mpr ⟨by simp; omega, ?_⟩, by simpa using e2, by simp [e3]⟩
          simp only [List.take_succ_cons, List.all_cons, Bool.and_eq_true, List.getD_cons_succ]
          exact ⟨by rw [e2]; exact h2, e1.2⟩
      · cases h
theorem fpl_ne {w : List Int} (h : w ≠ []) : 0 ∈ fpl F w := mem_fpl.mpr ⟨List.length_pos_iff.mpr h, by simp⟩
/-- the least first letter and its place -/
theorem low_place (hs : ∀ a b, F a b = F b a) (hi : ∀ a, F a a = false) {w : List Int} {i : Nat} (h : i ∈ fpl F w) (hm : ∀ j ∈ fpl F w, ¬ ([w.getD j 0, (j : Int)] : List Int) < [w.getD i 0, (i : Int)]) : low F w = w.getD i 0 :: low F (w.take i ++ w.drop (i + 1)) := by
  have hne : w ≠ [] := fun e => by rw [e] at h; simp [fpl] at h
  obtain ⟨m, v, _, hv, hl, e⟩ := low_step (F := F) hs hne
  obtain ⟨j, hj, ej, _⟩ := ext_fpl hv
  have h1 := hm j hj
  have h2 := hl _ _ (fpl_ext hi h)
  have h3 : ¬ m < w.getD i 0 := fun z => h1 (by rw [ej]; exact List.cons_lt_cons_iff.mpr (.inl z))
  have : w.getD i 0 = m := by omega
  have h4 := fpl_ext hi h
  rw [this, hv] at h4
  cases h4
  rw [this]
  exact e
theorem cut_len {w : List Int} {i : Nat} (h : i < w.length) : (w.take i ++ w.drop (i + 1)).length = w.length - 1 := by
  rw [List.length_append, List.length_take, List.length_drop]
  omega
/-! ### exchanges by places; how many words there are -/
/-- the letters at a and a + 1 exchanged -/
def sa (x : List Int) (a : Nat) : List Int := x.take a ++ (x.getD (a + 1) 0 :: x.getD a 0 :: x.drop (a + 2))
theorem sw_at {x y : List Int} : Sw F x y ↔ ∃ a, a + 1 < x.length ∧ F (x.getD a 0) (x.getD (a + 1) 0) = true ∧ y = sa x a := by
  constructor
  · rintro ⟨u, a, b, v, h⟩
    refine ⟨u.length, by simp, ?_, ?_⟩
    · simpa using h
    · simp [sa, List.drop_append, List.take_append]
  · rintro ⟨a, h1, h2, rfl⟩
    have e : x = x.take a ++ (x.getD a 0 :: x.getD (a + 1) 0 :: x.drop (a + 2)) := by
      conv => lhs; rw [← List.take_append_drop a x]
      congr 1
      rw [List.drop_eq_getElem_cons (by omega), List.drop_eq_getElem_cons (by omega)]
      simp [show a < x.length by omega, show a + 1 < x.length by omega]
    have := Sw.mk (F := F) (x.take a) (x.getD a 0) (x.getD (a + 1) 0) (x.drop (a + 2)) h2
    rw [← e] at this
    exact this
end
theorem sub_len {α : Type} [DecidableEq α] : ∀ {l l' : List α}, l.Nodup → (∀ a ∈ l, a ∈ l') → l.length ≤ l'.length
  | [], _, _, _ => Nat.zero_le _
  | a :: l, l', h, hs => by
    rw [List.nodup_cons] at h
    have h1 : a ∈ l' := hs a List.mem_cons_self
    have h2 : l.length ≤ (l'.erase a).length := sub_len h.2 fun b hb => by
      have hb' := hs b (List.mem_cons_of_mem _ hb)
      exact (List.mem_erase_of_ne (fun e => h.1 (by rw [← e]; exact hb))).mpr hb'
    rw [List.length_erase_of_mem h1] at h2
    have : 0 < l'.length := List.length_pos_of_mem h1
    rw [List.length_cons]
    omega
def allW (m : Nat) : Nat → List (List Int)
  | 0 => [[]]
  | n + 1 => (allW m n).flatMap fun w => (List.range m).map fun (i : Nat) => (i : Int) :: w
theorem allW_len {m : Nat} : ∀ {n : Nat}, (allW m n).length = m ^ n
  | 0 => rfl
  | n + 1 => by
    have : ∀ l : List (List Int), (l.flatMap fun w => (List.range m).map fun (i : Nat) => (i : Int) :: w).length = l.length * m := by
      intro l
      induction l with
      | nil => simp
      | cons a l ih => rw [List.flatMap_cons, List.length_append, ih, List.length_map, List.length_range, List.length_cons, Nat.add_mul, Nat.one_mul, Nat.add_comm]
    rw [allW, this, allW_len, Nat.pow_succ]
theorem mem_allW {m : Nat} : ∀ {w : List Int}, (∀ x ∈ w, 0 ≤ x ∧ x < (m : Int)) → w ∈ allW m w.length
  | [], _ => by simp [allW]
  | a :: w, h => by
    rw [List.length_cons, allW, List.mem_flatMap]
    have ha := h a List.mem_cons_self
    exact ⟨w, mem_allW fun x hx => h x (List.mem_cons_of_mem _ hx), List.mem_map.mpr ⟨a.toNat, List.mem_range.mpr (by omega), by congr 1; omega⟩⟩
section
variable {F : Int → Int → Bool}
/-- as many words alike as there are at most -/
theorem alike_few {m n : Nat} {w : List Int} {fs : List (List Int)} (hw : ∀ x ∈ w, 0 ≤ x ∧ x < (m : Int)) (hn : w.length ≤ n) (hm : 1 ≤ m) (h : ∀ x ∈ fs, Alike F w x) (nd : fs.Nodup) : fs.length ≤ m ^ n := by
  refine Nat.le_trans (sub_len (l' := allW m w.length) nd fun x hx => ?_) (by rw [allW_len]; exact Nat.pow_le_pow_right hm hn)
  have p := (h x hx).perm
  have := mem_allW (m := m) (w := x) fun y hy => hw y (p.mem_iff.mpr hy)
  rwa [← p.length_eq] at this
theorem tri_le : ∀ {n : Nat}, n ≤ 6 → tri n ≤ 30
  | 0, _ | 1, _ | 2, _ | 3, _ | 4, _ | 5, _ | 6, _ => by decide
theorem leW_lt : ∀ {x y : List Int}, leW x y = true → x = y ∨ x < y
  | [], [], _ => .inl rfl
  | [], _ :: _, _ => .inr (by simp)
  | _ :: _, [], h => by simp [leW] at h
  | a :: x, b :: y, h => by
    rw [leW] at h
    split at h
    · rename_i e
      subst e
      rcases leW_lt h with e | e
      · exact .inl (by rw [e])
      · exact .inr (List.cons_lt_cons_iff.mpr (.inr ⟨rfl, e⟩))
    · exact .inr (List.cons_lt_cons_iff.mpr (.inl (of_decide_eq_true h)))
/-- the search for alike words, turn by turn -/
structure Srch (F : Int → Int → Bool) (w : List Int) (t : Nat) (fs fr : List (List Int)) : Prop where
  al : ∀ x ∈ fs, Alike F w x
  nd : fs.Nodup
  st : w ∈ fs
  sub : ∀ x ∈ fr, x ∈ fs
  cl : ∀ x ∈ fs, x ∈ fr ∨ ∀ y, Sw F x y → y ∈ fs
  ball : ∀ x, Way F t w x → x ∈ fs
theorem Srch.start (w : List Int) : Srch F w 0 [w] [w] := ⟨fun x hx => by rw [List.mem_singleton.mp hx]; exact .refl _, by simp, by simp, fun x hx => hx, fun x hx => .inl hx, fun x h => by
  cases h
  simp⟩
theorem Srch.next {w : List Int} {t : Nat} {fs fr lg : List (List Int)} (s : Srch F w t fs fr) (al : ∀ x ∈ fs ++ lg, Alike F w x) (nd : (fs ++ lg).Nodup) (done : ∀ x ∈ fr, ∀ y, Sw F x y → y ∈ fs ++ lg) : Srch F w (t + 1) (fs ++ lg) lg := by
  have nb : ∀ x ∈ fs, ∀ y, Sw F x y → y ∈ fs ++ lg := fun x hx y hy => by
    rcases s.cl x hx with h | h
    · exact done x h y hy
    · exact List.mem_append_left _ (h y hy)
  refine ⟨al, nd, List.mem_append_left _ s.st, fun x hx => List.mem_append_right _ hx, fun x hx => ?_, fun x hx => ?_⟩
  · rcases List.mem_append.mp hx with h | h
    · exact .inr (nb x h)
    · exact .inl h
  · cases hx with
    | refl n w => exact List.mem_append_left _ s.st
    | step h1 h2 => exact nb _ (s.ball _ h1) _ h2
theorem Srch.closed {w : List Int} {t : Nat} {fs : List (List Int)} (s : Srch F w t fs []) {x : List Int} (h : Alike F w x) : x ∈ fs := by
  obtain ⟨n, h⟩ := h
  have key : ∀ {n x y}, Way F n x y → x ∈ fs → y ∈ fs := by
    intro n x y h
    induction h with
    | refl n w => exact fun h => h
    | step _ h2 ih =>
      intro h
      rcases s.cl _ (ih h) with z | z
      · cases z
      · exact z _ h2
  exact key h s.st
end
end TR

/-! turned words: letters with signs, opposite ones struck -/
namespace RW
open TR
structure Tf (F : Int → Int → Bool) : Prop where
  sy : ∀ a b, F a b = F b a
  ir : ∀ a, F a a = false
  ng : ∀ a b, F (-a) b = F a b
section
variable {F : Int → Int → Bool}
theorem Tf.ng2 (t : Tf F) (a b : Int) : F a (-b) = F a b := by rw [t.sy, t.ng, t.sy]
theorem Tf.opp (t : Tf F) (a : Int) : F a (-a) = false := by rw [t.ng2]; exact t.ir a
theorem Tf.opp2 (t : Tf F) (a : Int) : F (-a) a = false := by rw [t.ng]; exact t.ir a
def push (F : Int → Int → Bool) (L : List Int) (a : Int) : List Int := match ext F (-a) L with
  | some L' => L'
  | none => a :: L
def Red (F : Int → Int → Bool) : List Int → Prop
  | [] => True
  | a :: L => Red F L ∧ ext F (-a) L = none
theorem ext_none_congr (t : Tf F) {c : Int} {x y : List Int} (h : Alike F x y) (hx : ext F c x = none) : ext F c y = none := by
  cases e : ext F c y with
  | none => rfl
  | some v =>
    obtain ⟨v', h1, _⟩ := ext_congr t.sy t.ir (h.symm t.sy) e
    rw [hx] at h1
    cases h1
theorem red_sw (t : Tf F) : ∀ {u : List Int} {a b : Int} {v : List Int}, F a b = true → Red F (u ++ a :: b :: v) → Red F (u ++ b :: a :: v)
  | [], a, b, v, hf, h => by
    obtain ⟨⟨h1, h2⟩, h3⟩ := h
    have ne : ¬ -a = b := fun e => by rw [← e, t.opp] at hf; cases hf
    have ne2 : ¬ -b = a := fun e => by rw [← e, t.opp2] at hf; cases hf
    have f1 : F (-a) b = true := by rw [t.ng]; exact hf
    have f2 : F (-b) a = true := by rw [t.ng, t.sy]; exact hf
    rw [ext, if_neg ne, if_pos f1] at h3
    refine ⟨⟨h1, ?_⟩, ?_⟩
    · cases e : ext F (-a) v with
      | none => rfl
      | some w => rw [e] at h3; cases h3
    · rw [ext, if_neg ne2, if_pos f2, h2]
      rfl
  | c :: u, a, b, v, hf, h => by
    obtain ⟨h1, h2⟩ := h
    refine ⟨red_sw t hf h1, ?_⟩
    exact ext_none_congr t (Sw.alike (.mk u a b v hf)) h2
theorem red_way (t : Tf F) {n : Nat} {x y : List Int} (h : Way F n x y) : Red F x → Red F y := by
  induction h with
  | refl => exact id
  | step _ s ih =>
    intro hx
    cases s with
    | mk u a b v hf => exact red_sw t hf (ih hx)
theorem red_alike (t : Tf F) {x y : List Int} (h : Alike F x y) (hx : Red F x) : Red F y := by
  obtain ⟨n, h⟩ := h
  exact red_way t h hx
theorem push_red (t : Tf F) {L : List Int} (h : Red F L) (a : Int) : Red F (push F L a) := by
  unfold push
  cases e : ext F (-a) L with
  | none => exact ⟨h, e⟩
  | some L' => exact (red_alike t (ext_alike t.sy e) h).1
theorem push_congr (t : Tf F) {L M : List Int} (h : Alike F L M) (a : Int) : Alike F (push F L a) (push F M a) := by
  unfold push
  cases e : ext F (-a) L with
  | none =>
    rw [ext_none_congr t h e]
    exact h.cons a
  | some L' =>
    obtain ⟨M', h1, h2⟩ := ext_congr t.sy t.ir h e
    rw [h1]
    exact h2
theorem push_back (t : Tf F) {L : List Int} (h : Red F L) (a : Int) : Alike F (push F (push F L a) (-a)) L := by
  unfold push
  cases e : ext F (-a) L with
  | none =>
    dsimp only
    rw [Int.neg_neg, ext, if_pos rfl]
    exact .refl _
  | some L' =>
    dsimp only
    have h1 := ext_alike t.sy e
    have h2 := (red_alike t h1 h).2
    rw [h2]
    exact h1.symm t.sy
theorem push_comm (t : Tf F) {L : List Int} (h : Red F L) {a b : Int} (hf : F a b = true) : Alike F (push F (push F L a) b) (push F (push F L b) a) := by
  have ne : ¬ -b = a := fun e => by rw [← e, t.opp2] at hf; cases hf
  have ne2 : ¬ -a = b := fun e => by rw [← e, t.opp] at hf; cases hf
  have ne3 : ¬ -b = -a := fun e => by rw [Int.neg_inj.mp e, t.ir] at hf; cases hf
  have ne4 : ¬ -a = -b := fun e => ne3 e.symm
  have f1 : F (-b) a = true := by rw [t.ng, t.sy]; exact hf
  have f2 : F (-a) b = true := by rw [t.ng]; exact hf
  have f3 : F (-b) (-a) = true := by rw [t.ng, t.ng2, t.sy]; exact hf
  have f4 : F (-a) (-b) = true := by rw [t.ng, t.ng2]; exact hf
  cases ea : ext F (-a) L with
  | none =>
    cases eb : ext F (-b) L with
    | none =>
      simp only [push, ea, eb, ext, if_neg ne, if_neg ne2, if_pos f1, if_pos f2, Option.map_none]
      exact Sw.alike (.mk [] b a L (by rw [t.sy]; exact hf))
    | some Lb =>
      have h1 := ext_none_congr t (ext_alike t.sy eb) ea
      rw [ext, if_neg ne4, if_pos f4, Option.map_eq_none_iff] at h1
      simp only [push, ea, eb, ext, if_neg ne, if_pos f1, Option.map_some, h1]
      exact .refl _
  | some La =>
    cases eb : ext F (-b) L with
    | none =>
      have h1 := ext_none_congr t (ext_alike t.sy ea) eb
      rw [ext, if_neg ne3, if_pos f3, Option.map_eq_none_iff] at h1
      simp only [push, ea, eb, ext, if_neg ne2, if_pos f2, Option.map_some, h1]
      exact .refl _
    | some Lb =>
      obtain ⟨v, h1, h2⟩ := ext_congr t.sy t.ir (ext_alike t.sy ea) eb
      rw [ext, if_neg ne3, if_pos f3, Option.map_eq_some_iff] at h1
      obtain ⟨M, hM, rfl⟩ := h1
      have h3 : ext F (-a) (-a :: M) = some M := by rw [ext, if_pos rfl]
      obtain ⟨M', h4, h5⟩ := ext_congr t.sy t.ir (h2.symm t.sy) h3
      simp only [push, ea, eb, hM, h4]
      exact h5
def nf (F : Int → Int → Bool) (w : List Int) : List Int := w.foldl (push F) []
theorem nf_app {u v : List Int} : nf F (u ++ v) = v.foldl (push F) (nf F u) := List.foldl_append
theorem fold_red (t : Tf F) : ∀ {v L : List Int}, Red F L → Red F (v.foldl (push F) L)
  | [], _, h => h
  | a :: v, _, h => fold_red t (v := v) (push_red t h a)
theorem nf_red (t : Tf F) (w : List Int) : Red F (nf F w) := fold_red t trivial
theorem fold_congr (t : Tf F) : ∀ {v L M : List Int}, Alike F L M → Alike F (v.foldl (push F) L) (v.foldl (push F) M)
  | [], _, _, h => h
  | a :: v, _, _, h => fold_congr t (v := v) (push_congr t h a)
/-- the same turned word -/
def Eqv (F : Int → Int → Bool) (x y : List Int) : Prop := Alike F (nf F x) (nf F y)
theorem Eqv.refl (x : List Int) : Eqv F x x := Alike.refl _
theorem Eqv.symm (t : Tf F) {x y : List Int} (h : Eqv F x y) : Eqv F y x := Alike.symm t.sy h
theorem Eqv.trans {x y z : List Int} (h : Eqv F x y) (h' : Eqv F y z) : Eqv F x z := Alike.trans h h'
theorem eqv_sw (t : Tf F) {x y : List Int} (h : Sw F x y) : Eqv F x y := by
  cases h with
  | mk u a b v hf =>
    show Alike F (nf F (u ++ a :: b :: v)) (nf F (u ++ b :: a :: v))
    rw [nf_app, nf_app]
    exact fold_congr t (push_comm t (nf_red t u) hf)
theorem eqv_strike (t : Tf F) (u : List Int) (a : Int) (v : List Int) : Eqv F (u ++ a :: -a :: v) (u ++ v) := by
  show Alike F (nf F (u ++ a :: -a :: v)) (nf F (u ++ v))
  rw [nf_app, nf_app]
  exact fold_congr t (push_back t (nf_red t u) a)
theorem eqv_alike (t : Tf F) {x y : List Int} (h : Alike F x y) : Eqv F x y := by
  obtain ⟨n, h⟩ := h
  induction h with
  | refl => exact Eqv.refl _
  | step _ s ih => exact ih.trans (eqv_sw t s)
theorem eqv_app_r (t : Tf F) {x y : List Int} (h : Eqv F x y) (v : List Int) : Eqv F (x ++ v) (y ++ v) := by
  show Alike F (nf F (x ++ v)) (nf F (y ++ v))
  rw [nf_app, nf_app]
  exact fold_congr t h
/-! ### the word struck as far as may be -/
def red (F : Int → Int → Bool) (w : List Int) : List Int := (nf F w).reverse
theorem sw_rev (t : Tf F) {x y : List Int} (h : Sw F x y) : Sw F x.reverse y.reverse := by
  cases h with
  | mk u a b v hf =>
    have := Sw.mk (F := F) v.reverse b a u.reverse (by rw [t.sy]; exact hf)
    simpa using this
theorem alike_rev (t : Tf F) {x y : List Int} (h : Alike F x y) : Alike F x.reverse y.reverse := by
  obtain ⟨n, h⟩ := h
  induction h with
  | refl => exact Alike.refl _
  | step _ s ih => exact ih.trans (sw_rev t s).alike
theorem red_eqv (t : Tf F) (w : List Int) : Eqv F w (red F w) := by
  have key : ∀ (v L : List Int), Eqv F (L.reverse ++ v) ((v.foldl (push F) L).reverse) := by
    intro v
    induction v with
    | nil => intro L; rw [List.append_nil]; exact Eqv.refl _
    | cons a v ih =>
      intro L
      refine Eqv.trans ?_ (ih (push F L a))
      have e1 : L.reverse ++ a :: v = (L.reverse ++ [a]) ++ v := by simp
      rw [e1]
      refine eqv_app_r t ?_ v
      unfold push
      cases e : ext F (-a) L with
      | none =>
        rw [List.reverse_cons]
        exact Eqv.refl _
      | some L' =>
        have h1 := alike_rev t (ext_alike t.sy e)
        have h2 := eqv_app_r t (eqv_alike t h1) [a]
        refine h2.trans ?_
        have h3 := eqv_strike t L'.reverse (-a) []
        simpa using h3
  exact key w []
theorem len_push (L : List Int) (a : Int) (hs : ∀ a b, F a b = F b a) : (push F L a).length = L.length + 1 ∨ (push F L a).length + 1 = L.length := by
  unfold push
  cases e : ext F (-a) L with
  | none => exact .inl rfl
  | some L' => exact .inr (ext_len hs e).symm
theorem nf_len (hs : ∀ a b, F a b = F b a) : ∀ (v L : List Int), (v.foldl (push F) L).length % 2 = (L.length + v.length) % 2 ∧ (v.foldl (push F) L).length ≤ L.length + v.length
  | [], L => by simp
  | a :: v, L => by
    obtain ⟨h1, h2⟩ := nf_len hs v (push F L a)
    have := len_push L a hs
    rw [List.foldl_cons, List.length_cons]
    omega
theorem red_len (t : Tf F) (w : List Int) : (red F w).length % 2 = w.length % 2 ∧ (red F w).length ≤ w.length := by
  have := nf_len t.sy w []
  unfold red nf
  rw [List.length_reverse]
  simpa using this
theorem mem_push {L : List Int} {a z : Int} (h : z ∈ push F L a) (hs : ∀ a b, F a b = F b a) : z = a ∨ z ∈ L := by
  unfold push at h
  cases e : ext F (-a) L with
  | none => rw [e] at h; simpa using h
  | some L' =>
    rw [e] at h
    right
    exact (ext_alike hs e).perm.mem_iff.mpr (List.mem_cons_of_mem _ h)
theorem mem_fold (hs : ∀ a b, F a b = F b a) {z : Int} : ∀ {v L : List Int}, z ∈ v.foldl (push F) L → z ∈ v ∨ z ∈ L
  | [], _, h => .inr h
  | a :: v, L, h => by
    rcases mem_fold hs (v := v) h with h | h
    · exact .inl (by simp [h])
    · rcases mem_push h hs with h | h
      · exact .inl (by simp [h])
      · exact .inr h
theorem mem_red (t : Tf F) {w : List Int} {z : Int} (h : z ∈ red F w) : z ∈ w := by
  rcases mem_fold t.sy (List.mem_reverse.mp h) with h | h
  · exact h
  · cases h
/-! ### the place where a letter meets its opposite -/
def mpl (F : Int → Int → Bool) (l : List Int) (a : Int) : Nat → Option Nat
  | 0 => none
  | n + 1 => if l.getD n 0 = -a then some n else if F (l.getD n 0) a then mpl F l a n else none
theorem take_snoc {l : List Int} {n : Nat} (h : n < l.length) : (l.take (n + 1)).reverse = l.getD n 0 :: (l.take n).reverse := by
  rw [List.take_succ_eq_append_getElem h, List.reverse_append]
  simp [h]
theorem mpl_ext (t : Tf F) {l : List Int} {a : Int} : ∀ {n : Nat}, n ≤ l.length → ext F (-a) (l.take n).reverse = (mpl F l a n).map fun s => (l.take s ++ (l.take n).drop (s + 1)).reverse
  | 0, _ => rfl
  | n + 1, h => by
    have h : n < l.length := h
    rw [take_snoc h, ext, mpl, mpl_ext t (Nat.le_of_lt h)]
    by_cases e : l.getD n 0 = -a
    · rw [if_pos e, if_pos e.symm]
      simp
    · rw [if_neg e, if_neg (fun z => e z.symm)]
      have e2 : F (-a) (l.getD n 0) = F (l.getD n 0) a := by rw [t.ng, t.sy]
      rw [e2]
      by_cases f : F (l.getD n 0) a = true
      · rw [if_pos f, if_pos f]
        cases e3 : mpl F l a n with
        | none => rfl
        | some s =>
          have hs : s < n := by
            have key : ∀ {n s : Nat}, mpl F l a n = some s → s < n := by
              intro n
              induction n with
              | zero => intro s h; cases h
              | succ n ih =>
                intro s h
                rw [mpl] at h
                split at h
                · cases h; omega
                · split at h
                  · have := ih h; omega
                  · cases h
            exact key e3
          simp only [Option.map_some, Option.some.injEq]
          rw [List.take_succ_eq_append_getElem h, List.drop_append_of_le_length (by simp; omega)]
          simp [h]
      · rw [if_neg f, if_neg f]
        rfl
theorem mpl_lt {l : List Int} {a : Int} : ∀ {n s : Nat}, mpl F l a n = some s → s < n ∧ l.getD s 0 = -a ∧ ∀ i, s < i → i < n → F (l.getD i 0) a = true
  | 0, s, h => by cases h
  | n + 1, s, h => by
    rw [mpl] at h
    split at h
    · rename_i e
      cases h
      exact ⟨by omega, e, fun i h1 h2 => by omega⟩
    · split at h
      · rename_i f
        obtain ⟨h1, h2, h3⟩ := mpl_lt h
        refine ⟨by omega, h2, fun i h4 h5 => ?_⟩
        rcases Nat.lt_or_ge i n with h6 | h6
        · exact h3 i h4 h6
        · have : i = n := by omega
          subst this
          exact f
      · cases h
/-- a letter more -/
theorem red_snoc (t : Tf F) {c : List Int} {a : Int} : red F (c ++ [a]) = match mpl F (red F c) a (red F c).length with
    | none => red F c ++ [a]
    | some s => (red F c).take s ++ (red F c).drop (s + 1) := by
  have h := mpl_ext t (l := red F c) (a := a) (Nat.le_refl _)
  rw [List.take_length] at h
  have e : (red F c).reverse = nf F c := by unfold red; rw [List.reverse_reverse]
  rw [e] at h
  show (nf F (c ++ [a])).reverse = _
  rw [nf_app]
  show (push F (nf F c) a).reverse = _
  unfold push
  rw [h]
  cases mpl F (red F c) a (red F c).length with
  | none => simp [red]
  | some s => simp
end
end RW

/-! turned words: the least one, moves -/
namespace RW
open TR
def kap (a : Int) : Int := 2 * (a.natAbs : Int) + if a < 0 then 1 else 0
def kai (k : Int) : Int := if k % 2 = 0 then k / 2 else -(k / 2)
theorem kai_kap (a : Int) : kai (kap a) = a := by
  unfold kai kap
  by_cases h : a < 0
  · rw [if_pos h, if_neg (by omega)]
    omega
  · rw [if_neg h, if_pos (by omega)]
    omega
section
variable {F : Int → Int → Bool}
def FK (F : Int → Int → Bool) (k l : Int) : Bool := F (kai k) (kai l)
theorem FK_sy (t : Tf F) (a b : Int) : FK F a b = FK F b a := t.sy _ _
theorem FK_ir (t : Tf F) (a : Int) : FK F a a = false := t.ir _
theorem FK_kap (a b : Int) : FK F (kap a) (kap b) = F a b := by unfold FK; rw [kai_kap, kai_kap]
theorem map_kk (w : List Int) : (w.map kap).map kai = w := by
  rw [List.map_map]
  conv => rhs; rw [← List.map_id w]
  apply List.map_congr_left
  intro a _
  exact kai_kap a
theorem alike_map {x y : List Int} (h : Alike F x y) : Alike (FK F) (x.map kap) (y.map kap) := by
  obtain ⟨n, h⟩ := h
  induction h with
  | refl => exact Alike.refl _
  | step _ s ih =>
    refine ih.trans (Sw.alike ?_)
    cases s with
    | mk u a b v hf =>
      have := Sw.mk (F := FK F) (u.map kap) (kap a) (kap b) (v.map kap) (by rw [FK_kap]; exact hf)
      simpa using this
theorem alike_unmap {x y : List Int} (h : Alike (FK F) x y) : Alike F (x.map kai) (y.map kai) := by
  obtain ⟨n, h⟩ := h
  induction h with
  | refl => exact Alike.refl _
  | step _ s ih =>
    refine ih.trans (Sw.alike ?_)
    cases s with
    | mk u a b v hf =>
      have := Sw.mk (F := F) (u.map kai) (kai a) (kai b) (v.map kai) hf
      simpa using this
/-- the least word by exchanges alone -/
def ordT (F : Int → Int → Bool) (w : List Int) : List Int := (low (FK F) (w.map kap)).map kai
theorem ordT_alike (t : Tf F) (w : List Int) : Alike F w (ordT F w) := by
  have := alike_unmap (low_alike (FK_sy t) (w.map kap))
  rw [map_kk] at this
  exact this
theorem ordT_eq (t : Tf F) {x y : List Int} (h : Alike F x y) : ordT F x = ordT F y := by
  unfold ordT
  rw [low_eq (FK_sy t) (FK_ir t) (alike_map h)]
theorem ordT_inj (t : Tf F) {x y : List Int} (h : ordT F x = ordT F y) : Alike F x y := (ordT_alike t x).trans (h ▸ (ordT_alike t y).symm t.sy)
theorem fpl_map {w : List Int} : fpl (FK F) (w.map kap) = fpl F w := by
  unfold fpl
  rw [List.length_map]
  apply List.filter_congr
  intro i hi
  have hi := List.mem_range.mp hi
  rw [← List.map_take, List.all_map]
  have e : (w.map kap).getD i 0 = kap (w.getD i 0) := by simp [hi]
  rw [e]
  congr 1
  funext o
  exact FK_kap _ _
theorem ordT_nil : ordT F [] = [] := rfl
theorem ordT_len (t : Tf F) (w : List Int) : (ordT F w).length = w.length := (ordT_alike t w).len.symm
theorem ordT_place (t : Tf F) {w : List Int} {i : Nat} (h : i ∈ fpl F w) (hm : ∀ j ∈ fpl F w, ¬ ([kap (w.getD j 0), (j : Int)] : List Int) < [kap (w.getD i 0), (i : Int)]) : ordT F w = w.getD i 0 :: ordT F (w.take i ++ w.drop (i + 1)) := by
  have e : ∀ j ∈ fpl F w, (w.map kap).getD j 0 = kap (w.getD j 0) := fun j hj => by simp [(mem_fpl.mp hj).1]
  have := low_place (FK_sy t) (FK_ir t) (w := w.map kap) (i := i) (by rw [fpl_map]; exact h) (fun j hj => by
    rw [fpl_map] at hj
    rw [e j hj, e i h]
    exact hm j hj)
  unfold ordT
  rw [this, e i h, List.map_cons, kai_kap, ← List.map_take, ← List.map_drop, ← List.map_append]
def leastT (F : Int → Int → Bool) (w : List Int) : List Int := ordT F (red F w)
theorem leastT_eqv (t : Tf F) {x y : List Int} (h : Eqv F x y) : leastT F x = leastT F y := ordT_eq t (alike_rev t h)
theorem leastT_inj (t : Tf F) {x y : List Int} (h : leastT F x = leastT F y) : Eqv F x y := by
  have := alike_rev t (ordT_inj t h)
  unfold red at this
  rw [List.reverse_reverse, List.reverse_reverse] at this
  exact this
theorem leastT_self (t : Tf F) (w : List Int) : Eqv F w (leastT F w) := (red_eqv t w).trans (eqv_alike t (ordT_alike t _))
theorem leastT_len (t : Tf F) (w : List Int) : (leastT F w).length % 2 = w.length % 2 ∧ (leastT F w).length ≤ w.length := by
  unfold leastT
  rw [ordT_len t]
  exact red_len t w
theorem mem_leastT (t : Tf F) {w : List Int} {z : Int} (h : z ∈ leastT F w) : z ∈ w := mem_red t ((ordT_alike t _).perm.mem_iff.mpr h)
end
/-! ### moves -/
inductive Mv where
  | ch (p : Nat) | st (p : Nat) | pu (p : Nat) (x : Int)
def Mv.pos : Mv → Nat
  | .ch p => p
  | .st p => p
  | .pu p _ => p
/-- an exchange or a strike -/
def Mv.dn : Mv → Bool
  | .pu _ _ => false
  | _ => true
section
variable {F : Int → Int → Bool}
def ap (F : Int → Int → Bool) (w : List Int) : Mv → Option (List Int)
  | .pu p x => if p ≤ w.length ∧ w.length < 23 then some (w.take p ++ x :: -x :: w.drop p) else none
  | .ch p => if p + 1 < w.length then if F (w.getD p 0) (w.getD (p + 1) 0) then some (w.take p ++ w.getD (p + 1) 0 :: w.getD p 0 :: w.drop (p + 2)) else none else none
  | .st p => if p + 1 < w.length then if w.getD p 0 = -(w.getD (p + 1) 0) then some (w.take p ++ w.drop (p + 2)) else none else none
def mvd (F : Int → Int → Bool) (w : List Int) : List Mv → Option (List Int)
  | [] => some w
  | s :: S => (ap F w s).bind fun v => mvd F v S
theorem mvd_app {S T : List Mv} : ∀ {w : List Int}, mvd F w (S ++ T) = (mvd F w S).bind fun v => mvd F v T := by
  induction S with
  | nil => intro w; rfl
  | cons s S ih =>
    intro w
    show (ap F w s).bind (fun v => mvd F v (S ++ T)) = ((ap F w s).bind fun v => mvd F v S).bind fun v => mvd F v T
    cases ap F w s with
    | none => rfl
    | some v => exact ih
theorem split2 {w : List Int} {p : Nat} (h : p + 1 < w.length) : w = w.take p ++ w.getD p 0 :: w.getD (p + 1) 0 :: w.drop (p + 2) := by
  have e1 : w.getD p 0 = w[p] := by simp [show p < w.length by omega]
  have e2 : w.getD (p + 1) 0 = w[p + 1] := by simp [h]
  rw [e1, e2, List.getElem_cons_drop, List.getElem_cons_drop, List.take_append_drop]
theorem ap_eqv (t : Tf F) {w v : List Int} {s : Mv} (h : ap F w s = some v) : Eqv F w v := by
  cases s with
  | pu p x =>
    simp only [ap] at h
    split at h
    · cases h
      have := (eqv_strike t (w.take p) x (w.drop p)).symm t
      rw [List.take_append_drop] at this
      exact this
    · cases h
  | ch p =>
    simp only [ap] at h
    split at h
    · rename_i h1
      split at h
      · rename_i h2
        cases h
        have e := split2 h1
        conv => lhs; rw [e]
        exact eqv_sw t (.mk _ _ _ _ h2)
      · cases h
    · cases h
  | st p =>
    simp only [ap] at h
    split at h
    · rename_i h1
      split at h
      · rename_i h2
        cases h
        have e := split2 h1
        rw [h2] at e
        have := eqv_strike t (w.take p) (-(w.getD (p + 1) 0)) (w.drop (p + 2))
        rw [Int.neg_neg, ← e] at this
        exact this
      · cases h
    · cases h
theorem mvd_eqv (t : Tf F) : ∀ {S : List Mv} {w v : List Int}, mvd F w S = some v → Eqv F w v
  | [], w, v, h => by cases h; exact Eqv.refl _
  | s :: S, w, v, h => by
    simp only [mvd, Option.bind_eq_some_iff] at h
    obtain ⟨u, h1, h2⟩ := h
    exact (ap_eqv t h1).trans (mvd_eqv t h2)
/-- a letter brought ahead -/
def chs (s e : Nat) : List Mv := (List.range (s - e)).map fun i => .ch (s - 1 - i)
theorem mvd_chs : ∀ {n : Nat} {u x v : List Int} {a : Int}, x.length = n → (∀ o ∈ x, F o a = true) → mvd F (u ++ x ++ a :: v) (chs (u.length + x.length) u.length) = some (u ++ a :: x ++ v)
  | 0, u, [], v, a, _, _ => by simp [chs, mvd]
  | n + 1, u, x, v, a, hn, hf => by
    obtain ⟨y, b, rfl⟩ : ∃ y b, x = y ++ [b] := ⟨x.dropLast, x.getLast (by intro e; rw [e] at hn; cases hn), (List.dropLast_concat_getLast _).symm⟩
    have hy : y.length = n := by simpa using hn
    have e1 : chs (u.length + (y ++ [b]).length) u.length = .ch (u.length + y.length) :: chs (u.length + y.length) u.length := by
      unfold chs
      rw [show u.length + (y ++ [b]).length - u.length = y.length + 1 by simp, List.range_succ_eq_map, List.map_cons, List.map_map, Nat.add_sub_cancel_left]
      congr 1
      · congr 1
        simp
      · apply List.map_congr_left
        intro i _
        simp only [Function.comp, Mv.ch.injEq, List.length_append, List.length_cons, List.length_nil]
        omega
    rw [e1, mvd]
    have e2 : u ++ (y ++ [b]) ++ a :: v = (u ++ y) ++ b :: a :: v := by simp
    rw [e2]
    have hb : F b a = true := hf b (by simp)
    have e3 : ap F ((u ++ y) ++ b :: a :: v) (.ch (u.length + y.length)) = some ((u ++ y) ++ a :: b :: v) := by
      have hl : u.length + y.length = (u ++ y).length := by simp
      rw [hl]
      generalize u ++ y = z
      have g1 : (z ++ b :: a :: v).getD z.length 0 = b := by simp
      have g2 : (z ++ b :: a :: v).getD (z.length + 1) 0 = a := by
        rw [List.getD_eq_getElem?_getD, List.getElem?_append_right (by omega), show z.length + 1 - z.length = 1 by omega]
        rfl
      simp only [ap]
      rw [if_pos (by simp), g1, g2, if_pos hb]
      simp [List.drop_append]
    rw [e3]
    simp only [Option.bind_some]
    have := mvd_chs (n := n) (u := u) (x := y) (v := b :: v) (a := a) hy (fun o ho => hf o (by simp [ho]))
    rw [this]
    simp
theorem chs_dn {s e : Nat} : ∀ m ∈ chs s e, m.dn = true := by
  intro m hm
  obtain ⟨i, _, rfl⟩ := List.mem_map.mp hm
  rfl
/-- a move back -/
def bk (w : List Int) : Mv → Mv
  | .ch p => .ch p
  | .st p => .pu p (w.getD p 0)
  | .pu p x => .pu p x
theorem ap_bk (t : Tf F) {w v : List Int} {s : Mv} (hd : s.dn = true) (hl : w.length ≤ 20) (h : ap F w s = some v) : ap F v (bk w s) = some w ∧ v.length ≤ w.length := by
  cases s with
  | pu p x => cases hd
  | ch p =>
    simp only [ap] at h
    split at h
    · rename_i h1
      split at h
      · rename_i h2
        cases h
        have e := split2 h1
        have hlt : (w.take p).length = p := by simp; omega
        generalize w.take p = A at *
        generalize w.getD p 0 = a at *
        generalize w.getD (p + 1) 0 = b at *
        generalize w.drop (p + 2) = B at *
        subst hlt
        have g1 : (A ++ b :: a :: B).getD A.length 0 = b := by simp
        have g2 : (A ++ b :: a :: B).getD (A.length + 1) 0 = a := by
          rw [List.getD_eq_getElem?_getD, List.getElem?_append_right (by omega), show A.length + 1 - A.length = 1 by omega]
          rfl
        refine ⟨?_, by rw [e]; simp⟩
        show ap F (A ++ b :: a :: B) (.ch A.length) = some w
        simp only [ap]
        rw [if_pos (by simp), g1, g2, if_pos (by rw [t.sy]; exact h2), e]
        simp [List.drop_append]
      · cases h
    · cases h
  | st p =>
    simp only [ap] at h
    split at h
    · rename_i h1
      split at h
      · rename_i h2
        cases h
        have e := split2 h1
        have hlt : (w.take p).length = p := by simp; omega
        have hlw : (w.take p ++ w.drop (p + 2)).length < 23 := by simp; omega
        refine ⟨?_, by simp; omega⟩
        show ap F (w.take p ++ w.drop (p + 2)) (.pu p (w.getD p 0)) = some w
        simp only [ap]
        rw [if_pos ⟨by rw [List.length_append, hlt]; omega, hlw⟩]
        have h3 : -(w.getD p 0) = w.getD (p + 1) 0 := by rw [h2, Int.neg_neg]
        rw [h3]
        conv => rhs; rw [e]
        have hlt2 : (w.take p).length = p := hlt
        rw [List.take_append_of_le_length (by omega), List.drop_append_of_le_length (by omega), List.take_of_length_le (by omega), List.drop_of_length_le (by omega)]
        rfl
      · cases h
    · cases h
/-- moves back, those of S from w -/
def bks (F : Int → Int → Bool) (w : List Int) : List Mv → List Mv → List Mv
  | [], acc => acc
  | s :: S, acc => bks F ((ap F w s).getD []) S (bk w s :: acc)
theorem bks_ok (t : Tf F) : ∀ {S acc : List Mv} {w v o : List Int}, (∀ s ∈ S, s.dn = true) → w.length ≤ 20 → mvd F w S = some v → mvd F w acc = some o → mvd F v (bks F w S acc) = some o
  | [], acc, w, v, o, _, _, h, h' => by cases h; exact h'
  | s :: S, acc, w, v, o, hd, hl, h, h' => by
    simp only [mvd, Option.bind_eq_some_iff] at h
    obtain ⟨u, h1, h2⟩ := h
    obtain ⟨h3, h4⟩ := ap_bk t (hd s (by simp)) hl h1
    show mvd F v (bks F ((ap F w s).getD []) S (bk w s :: acc)) = some o
    rw [h1]
    refine bks_ok t (fun x hx => hd x (by simp [hx])) (by show u.length ≤ 20; omega) h2 ?_
    rw [mvd]
    show (ap F u (bk w s)).bind _ = _
    rw [h3]
    exact h'
theorem bks_len : ∀ {S acc : List Mv} {w : List Int}, (bks F w S acc).length = S.length + acc.length
  | [], acc, w => by simp [bks]
  | s :: S, acc, w => by
    rw [bks, bks_len]
    simp
    omega
theorem strike_row {L v : List Int} {a : Int} {s : Nat} (h : mpl F L a L.length = some s) : mvd F (L ++ a :: v) (chs L.length (s + 1) ++ [.st s]) = some (L.take s ++ L.drop (s + 1) ++ v) := by
  obtain ⟨h1, h2, h3⟩ := mpl_lt h
  have e1 : L = L.take (s + 1) ++ L.drop (s + 1) := (List.take_append_drop _ _).symm
  have l1 : (L.take (s + 1)).length = s + 1 := by simp; omega
  have l2 : (L.take (s + 1)).length + (L.drop (s + 1)).length = L.length := by simp; omega
  have hf : ∀ o ∈ L.drop (s + 1), F o a = true := by
    intro o ho
    obtain ⟨i, hi, rfl⟩ := List.getElem_of_mem ho
    rw [List.getElem_drop]
    simp at hi
    have := h3 (s + 1 + i) (by omega) (by omega)
    rwa [show L.getD (s + 1 + i) 0 = L[s + 1 + i] by simp [show s + 1 + i < L.length by omega]] at this
  have hm := mvd_chs (u := L.take (s + 1)) (v := v) (a := a) rfl hf
  rw [← e1, l2, l1] at hm
  rw [mvd_app, hm]
  simp only [Option.bind_some, mvd]
  have e2 : L.take (s + 1) = L.take s ++ [-a] := by
    rw [List.take_succ_eq_append_getElem h1, ← h2]
    simp [h1]
  have l3 : (L.take s).length = s := by simp; omega
  have g : ap F (L.take (s + 1) ++ a :: L.drop (s + 1) ++ v) (.st s) = some (L.take s ++ L.drop (s + 1) ++ v) := by
    rw [e2]
    generalize L.take s = A at *
    generalize L.drop (s + 1) = B at *
    subst l3
    have g1 : (A ++ [-a] ++ a :: B ++ v).getD A.length 0 = -a := by simp
    have g2 : (A ++ [-a] ++ a :: B ++ v).getD (A.length + 1) 0 = a := by
      rw [show A ++ [-a] ++ a :: B ++ v = (A ++ [-a]) ++ a :: (B ++ v) by simp, List.getD_eq_getElem?_getD, List.getElem?_append_right (by simp)]
      simp
    simp only [ap]
    rw [if_pos (by simp), g1, g2, if_pos rfl]
    simp [List.drop_append]
  rw [g]
  rfl
theorem front_row (t : Tf F) {ms v : List Int} {p : Nat} (h : p ∈ fpl F v) : mvd F (ms ++ v) (chs (ms.length + p) ms.length) = some (ms ++ v.getD p 0 :: (v.take p ++ v.drop (p + 1))) := by
  obtain ⟨h1, h2⟩ := mem_fpl.mp h
  have l1 : (v.take p).length = p := by simp; omega
  have e1 : v = v.take p ++ v.getD p 0 :: v.drop (p + 1) := by
    rw [show v.getD p 0 = v[p] by simp [h1], List.getElem_cons_drop, List.take_append_drop]
  have hm := mvd_chs (F := F) (u := ms) (x := v.take p) (v := v.drop (p + 1)) (a := v.getD p 0) rfl (fun o ho => by
    rw [t.sy]
    exact List.all_eq_true.mp h2 o ho)
  rw [l1, List.append_assoc, ← e1] at hm
  rw [hm]
  simp
theorem red_nil : red F [] = [] := rfl
end
end RW

/-! the class of all words alike: its search, its least member, words that cannot be struck -/
namespace RW
open TR
section
variable {F : Int → Int → Bool}
theorem Way.symm' (hs : ∀ a b, F a b = F b a) {n : Nat} {x y : List Int} (h : Way F n x y) : Way F n y x := by
  induction h with
  | refl n w => exact .refl n w
  | step h1 h2 ih =>
    have := Way.trans (.step (.refl 0 _) (h2.symm hs)) ih
    rw [show ∀ n, 0 + 1 + n = n + 1 by intro n; omega] at this
    exact this
theorem tri_sq : ∀ n, 2 * tri n ≤ n * n
  | 0 => by simp [tri]
  | n + 1 => by
    have := tri_sq n
    simp only [tri]
    rw [Nat.mul_add, Nat.add_mul, Nat.mul_add]
    omega
theorem way_all (t : Tf F) {w x : List Int} (h : Alike F w x) : Way F (w.length * w.length) w x := by
  have h1 := low_way t.sy (F := F) (w := w) rfl
  have h2 := Way.symm' t.sy (low_way t.sy (F := F) (w := x) h.len.symm)
  rw [← low_eq t.sy t.ir h] at h2
  refine (h1.trans h2).mono ?_
  have := tri_sq w.length
  omega
/-- the words over an alphabet -/
def allL (A : List Int) : Nat → List (List Int)
  | 0 => [[]]
  | n + 1 => (allL A n).flatMap fun v => A.map fun a => a :: v
theorem allL_len {A : List Int} : ∀ {n : Nat}, (allL A n).length = A.length ^ n
  | 0 => rfl
  | n + 1 => by
    rw [allL, List.length_flatMap]
    simp only [List.length_map]
    rw [List.map_const', List.sum_replicate_nat, allL_len, Nat.pow_succ]
theorem mem_allL {A : List Int} : ∀ {w : List Int}, (∀ x ∈ w, x ∈ A) → w ∈ allL A w.length
  | [], _ => by simp [allL]
  | a :: w, h => by
    simp only [allL, List.length_cons, List.mem_flatMap, List.mem_map]
    exact ⟨w, mem_allL fun x hx => h x (List.mem_cons_of_mem _ hx), a, h a List.mem_cons_self, rfl⟩
theorem class_few {w : List Int} {fs : List (List Int)} (h : ∀ x ∈ fs, Alike F w x) (nd : fs.Nodup) : fs.length ≤ w.length ^ w.length := by
  rw [← allL_len (A := w)]
  refine sub_len nd fun x hx => ?_
  have := h x hx
  rw [this.len]
  exact mem_allL fun y hy => this.perm.mem_iff.mpr hy
theorem pow_few : ∀ {n : Nat}, n ≤ 7 → n ^ n ≤ 823543
  | 0, _ => by decide
  | 1, _ => by decide
  | 2, _ => by decide
  | 3, _ => by decide
  | 4, _ => by decide
  | 5, _ => by decide
  | 6, _ => by decide
  | 7, _ => by decide
  | n + 8, h => by omega
/-! words that cannot be struck -/
def Irr (F : Int → Int → Bool) (w : List Int) : Prop := ∀ u a v, ¬ Alike F w (u ++ a :: -a :: v)
theorem not_red (t : Tf F) : ∀ {w : List Int}, ¬ Red F w → ∃ u a v, Alike F w (u ++ a :: -a :: v)
  | [], h => absurd trivial h
  | a :: L, h => by
    cases e : ext F (-a) L with
    | none =>
      obtain ⟨u, b, v, h1⟩ := not_red t (w := L) fun z => h ⟨z, e⟩
      exact ⟨a :: u, b, v, h1.cons a⟩
    | some v => exact ⟨[], a, v, (ext_alike t.sy e).cons a⟩
theorem irr_red (t : Tf F) {w : List Int} (h : Irr F w) : Red F w := by
  by_cases e : Red F w
  · exact e
  · obtain ⟨u, a, v, h1⟩ := not_red t e
    exact absurd h1 (h u a v)
theorem irr_rev (t : Tf F) {w : List Int} (h : Irr F w) : Irr F w.reverse := fun u a v z => by
  have := alike_rev t z
  rw [List.reverse_reverse] at this
  refine h v.reverse (-a) u.reverse ?_
  simpa using this
theorem irr_alike (t : Tf F) {w x : List Int} (h : Irr F w) (e : Alike F w x) : Irr F x := fun u a v z => h u a v (e.trans z)
theorem red_suf : ∀ {u L : List Int}, Red F (u ++ L) → Red F L
  | [], _, h => h
  | _ :: _, _, h => red_suf h.1
theorem fold_irr : ∀ {v L : List Int}, Red F (v.reverse ++ L) → v.foldl (push F) L = v.reverse ++ L
  | [], L, _ => rfl
  | a :: v, L, h => by
    rw [List.reverse_cons, List.append_assoc] at h ⊢
    have h1 := (red_suf h).2
    rw [List.foldl_cons]
    have e : push F L a = a :: L := by unfold push; rw [show ext F (-a) L = none from h1]
    rw [e]
    exact fold_irr h
theorem red_irr (t : Tf F) {w : List Int} (h : Irr F w) : red F w = w := by
  unfold red nf
  rw [fold_irr (by rw [List.append_nil]; exact irr_red t (irr_rev t h)), List.append_nil, List.reverse_reverse]
theorem leastT_irr (t : Tf F) {w : List Int} (h : Irr F w) : leastT F w = ordT F w := by
  unfold leastT
  rw [red_irr t h]
theorem irr_nil : Irr F [] := fun u a v h => by
  have := h.len
  simp at this
theorem red_is_irr (t : Tf F) (w : List Int) : Irr F (red F w) := fun u a v h => by
  have h1 : Alike F (nf F w) (red F w).reverse := by unfold red; rw [List.reverse_reverse]; exact .refl _
  have h2 := red_alike t (h1.trans (alike_rev t h)) (nf_red t w)
  simp only [List.reverse_append, List.reverse_cons, List.append_assoc, List.singleton_append] at h2
  have h3 := (red_suf h2).2
  simp [ext] at h3
/-! the least word of a class -/
def ordl (w : List Int) : List Int := w.map fun a => 2 * (a.natAbs : Int) - if a > 0 then 1 else 0
theorem ordl_kap {w : List Int} (h : ∀ a ∈ w, a ≠ 0) : ordl w = (w.map kap).map fun k => k - 1 := by
  unfold ordl
  rw [List.map_map]
  apply List.map_congr_left
  intro a ha
  have := h a ha
  simp only [Function.comp, kap]
  split <;> split <;> omega
theorem lt_shift : ∀ {x y : List Int}, x < y → x.map (fun k => k - 1) < y.map fun k => k - 1
  | _, [], h => by cases h
  | [], _ :: _, _ => by simp
  | a :: x, b :: y, h => by
    rw [List.cons_lt_cons_iff] at h
    rw [List.map_cons, List.map_cons, List.cons_lt_cons_iff]
    rcases h with h | ⟨rfl, h⟩
    · exact .inl (by omega)
    · exact .inr ⟨rfl, lt_shift h⟩
theorem map_kai : ∀ {l w : List Int}, (∀ k ∈ l, k ∈ w.map kap) → (l.map kai).map kap = l
  | [], _, _ => rfl
  | k :: l, w, h => by
    obtain ⟨a, _, rfl⟩ := List.mem_map.mp (h k List.mem_cons_self)
    rw [List.map_cons, List.map_cons, kai_kap, map_kai (w := w) fun z hz => h z (List.mem_cons_of_mem _ hz)]
theorem ordT_least (t : Tf F) {w x : List Int} (h : Alike F w x) (h0 : ∀ a ∈ w, a ≠ 0) (hx : x ≠ ordT F w) : ordl (ordT F w) < ordl x := by
  have m1 : ∀ k ∈ low (FK F) (w.map kap), k ∈ w.map kap := fun k hk => (low_alike (FK_sy t) (w.map kap)).perm.mem_iff.mpr hk
  have e1 : (ordT F w).map kap = low (FK F) (w.map kap) := map_kai m1
  have hl := leW_lt (low_le (FK_sy t) (FK_ir t) rfl (alike_map h))
  rw [← e1] at hl
  have hw1 : ∀ a ∈ ordT F w, a ≠ 0 := fun a ha => h0 a ((ordT_alike t w).perm.mem_iff.mpr ha)
  have hw2 : ∀ a ∈ x, a ≠ 0 := fun a ha => h0 a (h.perm.mem_iff.mpr ha)
  rw [ordl_kap hw1, ordl_kap hw2]
  rcases hl with e | e
  · refine absurd ?_ hx
    have := congrArg (fun l => l.map kai) e
    rw [map_kk, map_kk] at this
    exact this.symm
  · exact lt_shift e
end
end RW
namespace DL
open PySem L2
/-! sorted rows of pairs of tuples of ints -/
section
variable {β : Type} {f g : β → List Int}
abbrev prD (f g : β → List Int) (b : β) : D := .tup [.tup ((f b).map .int), .tup ((g b).map .int)]
def prLt (f g : β → List Int) (a b : β) : Bool := if f a = f b then decide (g a < g b) else decide (f a < f b)
theorem prD_lt {a b : β} : D.lt (prD f g a) (prD f g b) = prLt f g a b := by
  unfold prLt
  simp only [D.lt, D.ltL, D.eqv, eqvL_ints, ltL_ints, decide_eq_true_eq]
  by_cases h : f a = f b
  · rw [if_pos h, if_pos h]
    by_cases h2 : g a = g b
    · simp [h2, List.lt_irrefl]
    · simp [h2]
  · rw [if_neg h, if_neg h]
theorem sortOk_pr {l : List β} : sortOk (l.map (prD f g)) = true := by
  unfold sortOk
  have h3 : ((l.map (prD f g)).all fun d => d.okd 50) = true := by
    rw [List.all_eq_true]
    intro d hd
    obtain ⟨b, _, rfl⟩ := List.mem_map.mp hd
    simp
  have h4 : ((l.map (prD f g)).all fun d => (l.map (prD f g)).all fun e => D.alk d e) = true := by
    rw [List.all_eq_true]
    intro d hd
    obtain ⟨b, _, rfl⟩ := List.mem_map.mp hd
    rw [List.all_eq_true]
    intro e he
    obtain ⟨c, _, rfl⟩ := List.mem_map.mp he
    simp [D.alk, D.alkL, alkL_ints]
  have h5 : ((l.map (prD f g)).all isTp) = true := by
    rw [List.all_eq_true]
    intro d hd
    obtain ⟨b, _, rfl⟩ := List.mem_map.mp hd
    rfl
  rw [h3, h4, h5]
  simp
theorem sortD_pr {l : List β} : sortD (l.map (prD f g)) = (l.mergeSort fun a b => !prLt f g b a).map (prD f g) := by
  unfold sortD
  rw [srtF_eq (Nat.le_refl _)]
  symm
  refine PySem.W.sort_maps _ fun a _ b _ => ?_
  rw [prD_lt]
/-- the head of the sorted row: the strict least -/
theorem sort_head {l : List β} {b0 : β} (h0 : b0 ∈ l) (hm : ∀ b ∈ l, b ≠ b0 → f b0 < f b) : ∃ r, (l.mergeSort fun a b => !prLt f g b a) = b0 :: r ∧ r.length + 1 = l.length := by
  have tr : ∀ a b c : β, (!prLt f g b a) = true → (!prLt f g c b) = true → (!prLt f g c a) = true := by
    intro a b c h1 h2
    unfold prLt at *
    simp only [Bool.not_eq_true'] at *
    by_cases e1 : f b = f a
    · rw [if_pos e1] at h1
      have h1 := of_decide_eq_false h1
      by_cases e2 : f c = f b
      · rw [if_pos e2] at h2
        have h2 := of_decide_eq_false h2
        rw [if_pos (e2.trans e1)]
        exact decide_eq_false fun z => h1 (Std.lt_of_le_of_lt (Std.not_lt.mp h2) z)
      · rw [if_neg e2] at h2
        rw [if_neg (fun z => e2 (z.trans e1.symm)), ← e1]
        exact h2
    · rw [if_neg e1] at h1
      have h1 := of_decide_eq_false h1
      by_cases e2 : f c = f b
      · rw [e2, if_neg e1]
        exact decide_eq_false h1
      · rw [if_neg e2] at h2
        have h2 := of_decide_eq_false h2
        have h3 : f a ≤ f b := Std.not_lt.mp h1
        have h4 : f b ≤ f c := Std.not_lt.mp h2
        have h5 : ¬ f c < f a := fun z => h1 (Std.lt_of_le_of_lt h4 z)
        have h6 : ¬ f c = f a := fun z => e2 (Std.le_antisymm (z ▸ h3) h4)
        rw [if_neg h6]
        exact decide_eq_false h5
  have tot : ∀ a b : β, ((!prLt f g b a) || (!prLt f g a b)) = true := by
    intro a b
    unfold prLt
    by_cases e : f b = f a
    · rw [if_pos e, if_pos e.symm]
      by_cases h : g b < g a
      · have : ¬ g a < g b := fun z => Std.lt_irrefl (Std.lt_trans h z)
        simp [this]
      · simp [h]
    · rw [if_neg e, if_neg (fun z => e z.symm)]
      by_cases h : f b < f a
      · have : ¬ f a < f b := fun z => Std.lt_irrefl (Std.lt_trans h z)
        simp [this]
      · simp [h]
  have hp := List.mergeSort_perm l fun a b => !prLt f g b a
  have hs := List.pairwise_mergeSort tr tot l
  cases e : l.mergeSort fun a b => !prLt f g b a with
  | nil =>
    rw [e] at hp
    have := hp.mem_iff.mpr h0
    cases this
  | cons c r =>
    rw [e] at hp hs
    have hl := hp.length_eq
    have hc : c = b0 := by
      have hcl : c ∈ l := hp.mem_iff.mp List.mem_cons_self
      rcases List.mem_cons.mp (hp.mem_iff.mpr h0) with z | z
      · exact z.symm
      · by_cases e : c = b0
        · exact e
        · have h1 := (List.pairwise_cons.mp hs).1 b0 z
          have h2 := hm c hcl e
          unfold prLt at h1
          rw [if_neg (fun z => by rw [z] at h2; exact Std.lt_irrefl h2)] at h1
          simp [h2] at h1
    subst hc
    exact ⟨r, rfl, by rw [← hl]; rfl⟩
end
/-! dicts of words, each told true -/
def kd (fs : List (List Int)) : Dc := fs.map fun x => (x, .bl true)
theorem valD_kd {x : List Int} : ∀ {fs : List (List Int)}, (valD (kd fs) x).isSome = decide (x ∈ fs)
  | [] => rfl
  | y :: fs => by
    by_cases h : y = x
    · simp [kd, valD, h]
    · have h' : ¬ x = y := fun e => h e.symm
      have := valD_kd (x := x) (fs := fs)
      simp only [kd] at this
      simp [kd, valD, h, h', this]
theorem putD_kd {x : List Int} {fs : List (List Int)} (h : x ∉ fs) : putD (kd fs) x (.bl true) = kd (fs ++ [x]) := by
  unfold putD
  rw [valD_kd]
  simp [h, kd]
theorem kd_len {fs : List (List Int)} : (kd fs).length = fs.length := by simp [kd]
theorem kd_keys {fs : List (List Int)} : (kd fs).map (fun p => D.tup (p.1.map .int)) = fs.map fun x => .tup (x.map .int) := by simp [kd]
@[simp] theorem cellT_mid {st tl : Stor} {l : Dc} : cellT (st ++ .dct l :: tl) st.length = some l := by simp [cellT]
end DL
namespace RW
open TR
/-- the words with two neighbours struck -/
def fitP (own : List Int) (a : Nat) : Bool := decide (own.getD a 0 = -own.getD (a + 1) 0)
def cut2 (own : List Int) (a : Nat) : List Int := own.take a ++ own.drop (a + 2)
def fitof (own : List Int) : List (List Int) := ((List.range (own.length - 1)).filter (fitP own)).map (cut2 own)
theorem fitof_len {own : List Int} : (fitof own).length ≤ own.length := by
  unfold fitof
  rw [List.length_map]
  exact Nat.le_trans (List.length_filter_le _ _) (by rw [List.length_range]; omega)
theorem fitof_mem {own z : List Int} (h : z ∈ fitof own) : ∃ u a v, own = u ++ a :: -a :: v ∧ z = u ++ v := by
  unfold fitof at h
  obtain ⟨i, h1, rfl⟩ := List.mem_map.mp h
  obtain ⟨h1, h2⟩ := List.mem_filter.mp h1
  have h2 := of_decide_eq_true h2
  have hi : i + 1 < own.length := by simp at h1; omega
  have e := split2 hi
  refine ⟨own.take i, own.getD i 0, own.drop (i + 2), ?_, rfl⟩
  rw [h2, Int.neg_neg, ← h2]
  exact e
theorem fitof_some {u v : List Int} {a : Int} : u ++ v ∈ fitof (u ++ a :: -a :: v) := by
  unfold fitof
  refine List.mem_map.mpr ⟨u.length, List.mem_filter.mpr ⟨by simp, ?_⟩, ?_⟩
  · unfold fitP
    simp
  · unfold cut2
    simp
theorem fits_len {n : Nat} : ∀ {fs : List (List Int)}, (∀ x ∈ fs, x.length ≤ n) → (fs.flatMap fitof).length ≤ fs.length * n
  | [], _ => by simp
  | x :: fs, h => by
    have h1 := fits_len (fs := fs) fun z hz => h z (List.mem_cons_of_mem _ hz)
    have h2 := fitof_len (own := x)
    have h3 := h x List.mem_cons_self
    rw [List.flatMap_cons, List.length_append, List.length_cons, Nat.add_mul]
    omega
/-- one turn of the striking -/
theorem fit_turn {F : Int → Int → Bool} (t : Tf F) {w v : List Int} {i : Nat} {fs : List (List Int)} (hf : ∀ x, x ∈ fs ↔ Alike F v x) (h1 : Eqv F w v) (h2 : v.length ≤ w.length) (h3 : Irr F v ∨ v.length + 2 * i ≤ w.length) (h4 : ∀ z ∈ v, z ∈ w) :
    (fs.flatMap fitof = [] ∧ Irr F v) ∨ ∃ x r, fs.flatMap fitof = x :: r ∧ Eqv F w x ∧ x.length ≤ w.length ∧ (Irr F x ∨ x.length + 2 * (i + 1) ≤ w.length) ∧ ∀ z ∈ x, z ∈ w := by
  cases e : fs.flatMap fitof with
  | nil =>
    refine .inl ⟨rfl, fun u a y h => ?_⟩
    have := List.mem_flatMap.mpr ⟨_, (hf _).mpr h, fitof_some⟩
    rw [e] at this
    cases this
  | cons x r =>
    have hx : x ∈ fs.flatMap fitof := by rw [e]; exact List.mem_cons_self
    obtain ⟨own, ho, hx⟩ := List.mem_flatMap.mp hx
    have ha := (hf own).mp ho
    obtain ⟨u, a, y, rfl, rfl⟩ := fitof_mem hx
    have hl := ha.len
    simp only [List.length_append, List.length_cons] at hl
    refine .inr ⟨_, r, rfl, h1.trans ((eqv_alike t ha).trans (eqv_strike t u a y)), by rw [List.length_append]; omega, .inr ?_, fun z hz => h4 z (ha.perm.mem_iff.mpr ?_)⟩
    · rcases h3 with h | h
      · exact absurd ha (h u a y)
      · rw [List.length_append]; omega
    · rcases List.mem_append.mp hz with h | h
      · exact List.mem_append_left _ h
      · exact List.mem_append_right _ (List.mem_cons_of_mem _ (List.mem_cons_of_mem _ h))
end RW

namespace DLk41
open PySem L2 DL RW
def tp (x : List Int) : D := .tup (x.map .int)
theorem okd_tp {n : Nat} {w : List Int} : (tp w).okd (n + 1) = true := by simp [tp]
theorem symQ {m : Int} {qs : List (Int × Int)} (g : GoodL m qs) : ∀ a b, freeQ qs a b = freeQ qs b a := freeQ_comm fun q hq => (g.prs q hq).2.1
theorem irrQ {m : Int} {qs : List (Int × Int)} (g : GoodL m qs) : ∀ a, freeQ qs a a = false := fun a => by
  unfold freeQ
  rw [if_neg (by omega)]
  have : (a, a) ∉ qs := fun z => by have := g.prs _ z; dsimp only at this; omega
  simp [this]
/-- may two letters with signs change places -/
def Fs (qs : List (Int × Int)) (a b : Int) : Bool := freeQ qs ((a.natAbs : Int) - 1) ((b.natAbs : Int) - 1)
theorem tfQ {m : Int} {qs : List (Int × Int)} (g : GoodL m qs) : Tf (Fs qs) := ⟨fun a b => symQ g _ _, fun a => irrQ g _, fun a b => by unfold Fs; rw [Int.natAbs_neg]⟩
theorem abs_if (a : Int) : (if a < 0 then -a else a) = (a.natAbs : Int) := by split <;> omega
def sv (o : Option Nat) : D := match o with
  | none => .non
  | some s => .int (s : Int)
section
variable {k : Nat} {m : Int} {qs : List (Int × Int)}
theorem r_pass (hk : 6 ≤ k) (a b : Int) (st : Stor) : run defs k 9 [.d (mkL m qs), .d (.int a), .d (.int b)] st = .ok (.d (.bl (Fs qs a b))) st := by
  rw [u_may_pass (by omega)]
  have hfree := @r_free (k - 1) (by omega) m qs
  simp [b_may_pass, abs_if, hfree, Fs]
theorem r_key (hk : 3 ≤ k) (a : Int) (st : Stor) : run defs k 10 [.d (.int a)] st = .ok (.d (.int (kap a))) st := by
  rw [u_key_of hk]
  have hm : ∀ st b, dMul st (.d (.int 2)) (.d (.int b)) = _ := fun st b => dMul_ii (okMul_l (by decide))
  by_cases h : a < 0
  · have e : (a.natAbs : Int) = -a := by omega
    simp [b_key_of, hm, h, kap, e]
  · have e : (a.natAbs : Int) = a := by omega
    simp [b_key_of, hm, h, kap, e]
theorem downD_succ {lo : Int} {n : Nat} : downD lo (n + 1) = .int lo :: downD (lo - 1) n := by
  unfold downD
  rw [List.range_succ_eq_map, List.map_cons, List.map_map]
  congr 1
  · simp
  · apply List.map_congr_left
    intro i _
    simp only [Function.comp, D.int.injEq]
    omega
theorem ixA {l : List Int} {n : Nat} (h : n < l.length) : atI (l.map D.int) (n : Int) = some (.int (l.getD n 0)) := by
  rw [atI_n]
  simp [h]
theorem cut_to {l : List Int} {n : Nat} : DL.cutD (l.map D.int) none (some (n : Int)) = (l.take n).map .int := by
  rw [cutD_toI (by omega), List.map_take]
  rfl
theorem cut_from {l : List Int} {n : Nat} : DL.cutD (l.map D.int) (some (n : Int)) none = (l.drop n).map .int := by
  rw [cutD_fromI (by omega), List.map_drop]
  rfl
theorem cut_from1 {l : List Int} {n : Nat} : DL.cutD (l.map D.int) (some ((n : Int) + 1)) none = (l.drop (n + 1)).map .int := by
  rw [cutD_fromI (by omega), List.map_drop]
  congr 1
theorem r_meet (hk : 10 ≤ k) (l : List Int) (hl : l.length ≤ 1000) {X : D} (hX : X = tp l ∨ X = .lst (l.map .int)) (a : Int) (st : Stor) : run defs k 11 [.d (mkL m qs), .d X, .d (.int a)] st = .ok (.d (sv (mpl (Fs qs) l a l.length))) st := by
  rw [u_meeting_place (by omega)]
  have hpass := @r_pass (k - 1) m qs (by omega)
  have hlen : ∀ st, dLen st [.d X] = some (.d (.int (l.length : Int))) := fun st => by rcases hX with rfl | rfl <;> simp [tp]
  have hix : ∀ st n, n < l.length → dIx st (.d X) (.d (.int (n : Nat))) = some (.d (.int (l.getD n 0))) := fun st n h => by
    rcases hX with rfl | rfl
    · simp [tp, ixA h, -List.getD_eq_getElem?_getD]
    · simp [ixA h, -List.getD_eq_getElem?_getD]
  have key : ∀ (tg : D → Envi → Option Envi) (body : DenS) (o3 : Option SV), tg = tN 3 → body = (sSeq (sIf (bV (eOp dEq (eOp dIx (eV 1) (eV 3)) (eNeg (eV 2)))) (sRet (eV 3)) sNext) (sIf (bNot (bV (eCall (run defs (k - 1)) 9 (DL.gCons (eV 0) (DL.gCons (eOp dIx (eV 1) (eV 3)) (DL.gCons (eV 2) DL.gNil)))))) (sRet (eC .non)) sNext)) →
      ∀ (n : Nat) (o3 : Option SV), n ≤ l.length → (forGo tg body (downD ((n : Int) - 1) n) [some (.d (mkL m qs)), some (.d X), some (.d (.int a)), o3] st).seq (sRet (eC .non)) = .rt (.d (sv (mpl (Fs qs) l a n))) st := by
    intro tg body _ htg hbody n
    induction n with
    | zero =>
      intro o3 _
      simp [downD, forGo, mpl, sv]
    | succ n ih =>
      intro o3 h
      rw [downD_succ, forGo_cons (env1 := [some (.d (mkL m qs)), some (.d X), some (.d (.int a)), some (.d (.int (n : Nat)))]) (by rw [htg]; simp)]
      have h1 := hix st n (by omega)
      generalize hx : l.getD n 0 = x at h1
      rw [mpl, hx]
      by_cases e : x = -a
      · rw [if_pos e]
        rw [hbody]
        simp [h1, e, loopO, sv]
      · rw [if_neg e]
        by_cases f : Fs qs x a = true
        · rw [if_pos f]
          have hb : body [some (.d (mkL m qs)), some (.d X), some (.d (.int a)), some (.d (.int (n : Nat)))] st = .nx [some (.d (mkL m qs)), some (.d X), some (.d (.int a)), some (.d (.int (n : Nat)))] st := by
            rw [hbody]
            simp [h1, e, hpass, f]
          rw [hb]
          simp only [loopO]
          rw [show ((n + 1 : Nat) : Int) - 1 - 1 = (n : Int) - 1 by omega]
          exact ih _ (by omega)
        · rw [if_neg f]
          simp only [Bool.not_eq_true] at f
          rw [hbody]
          simp [h1, e, hpass, f, loopO, sv]
  simp [b_meeting_place, hlen]
  rw [rng3_down (by omega) (by omega)]
  have := key _ _ none rfl rfl l.length none (Nat.le_refl _)
  rw [show ((l.length : Int) - 1 - -1).toNat = l.length by omega]
  simp only [then_ok]
  rw [this]
  simp
theorem r_reduced (hk : 15 ≤ k) (g : GoodL m qs) (w : List Int) (hw : w.length ≤ 1000) (st : Stor) : run defs k 12 [.d (mkL m qs), .d (tp w)] st = .ok (.d (.lst ((red (Fs qs) w).map .int))) st := by
  rw [u_reduced_in (by omega)]
  have t := tfQ g
  have hmeet := fun l hl a => @r_meet (k - 1) m qs (by omega) l hl (.lst (l.map .int)) (.inr rfl) a
  simp [b_reduced_in, tp, show w.length ≤ 16777216 by omega]
  generalize hz : forGo _ _ _ _ _ = z
  obtain ⟨R, hR⟩ : ∃ R : Nat → Envi → Stor → Prop, R = fun i env st' => (∃ o3 o4, env = [some (.d (mkL m qs)), some (.d (.tup (w.map .int))), some (.d (.lst ((red (Fs qs) (w.take i)).map .int))), o3, o4]) ∧ st' = st := ⟨_, rfl⟩
  obtain ⟨env', st', rfl, hRe⟩ := forZi hz .int w rfl R (by rw [hR]; exact ⟨⟨_, _, rfl⟩, rfl⟩) (by
    intro i hi env st' h
    rw [hR] at h
    obtain ⟨⟨o3, o4, rfl⟩, rfl⟩ := h
    have e1 := red_snoc t (c := w.take i) (a := w[i])
    rw [← List.take_succ_eq_append_getElem hi] at e1
    have hl := (red_len t (w.take i)).2
    rw [List.length_take] at hl
    have h1 := hmeet (red (Fs qs) (w.take i)) (by omega) w[i] st'
    generalize red (Fs qs) (w.take i) = L at *
    generalize hy : red (Fs qs) (w.take (i + 1)) = L' at *
    refine ⟨_, by simp; rfl, ?_⟩
    cases h2 : mpl (Fs qs) L w[i] L.length with
    | none =>
      rw [h2] at h1 e1
      simp [h1, sv, show L.length + 1 ≤ 16777216 by omega]
      exact ⟨_, _, ⟨rfl, rfl⟩, by rw [hR]; exact ⟨⟨_, _, by rw [hy, e1]; simp; exact ⟨rfl, rfl⟩⟩, rfl⟩⟩
    | some s =>
      rw [h2] at h1 e1
      have hs := (mpl_lt h2).1
      simp [h1, sv, cut_to, cut_from1, show min s L.length + (L.length - (s + 1)) ≤ 16777216 by omega, -List.map_take, -List.map_drop]
      exact ⟨_, _, ⟨rfl, rfl⟩, by rw [hR]; exact ⟨⟨_, _, by rw [hy, e1]; simp; exact ⟨rfl, rfl⟩⟩, rfl⟩⟩)
  rw [hR] at hRe
  obtain ⟨⟨o3, o4, rfl⟩, rfl⟩ := hRe
  simp
end
end DLk41

namespace DLk41
open PySem L2 DL RW
section
variable {k : Nat} {m : Int} {qs : List (Int × Int)}
theorem r_front (hk : 10 ≤ k) (w : List Int) (hw : w.length ≤ 1000) {X : D} (hX : X = tp w ∨ X = .lst (w.map .int)) (st : Stor) : run defs k 13 [.d (mkL m qs), .d X] st = .ok (.d (.lst ((TR.fpl (Fs qs) w).map fun (i : Nat) => .int (i : Int)))) st := by
  rw [u_front_places (by omega)]
  have hpass := @r_pass (k - 1) m qs (by omega)
  have en := enumD (mk := D.int) (l := w) 0
  have hit : ∀ env st, iEnum_ (eV 1) env st = iEnum_ (eV 1) env st := fun _ _ => rfl
  obtain ⟨p, hp⟩ : ∃ p : Nat → Bool, p = fun i => (w.take i).all fun o => Fs qs (w.getD i 0) o := ⟨_, rfl⟩
  have hsl : ∀ (i : Nat) st, dSl st (.d X) none (some (i : Int)) = some (.d (tp (w.take i))) ∨ dSl st (.d X) none (some (i : Int)) = some (.n ((w.take i).map .int)) := fun i st => by
    rcases hX with rfl | rfl
    · left
      show some (W.d (.tup (DL.cutD (w.map .int) none (some (i : Int))))) = _
      rw [cut_to]
      rfl
    · right
      show some (W.n (DL.cutD (w.map .int) none (some (i : Int)))) = _
      rw [cut_to]
  have key : ∀ (tg : D → Envi → Option Envi) (body : DenS), tg = tT 2 (DL.tCons (tN 3) (DL.tCons (tN 4) DL.tNil)) → body = (sIf (bV (eB dAll (DL.gCons (eLc (iS (eSl (eV 1) oNone (oSome (eV 3)))) (tN 5) bYes (eCall (run defs (k - 1)) 9 (DL.gCons (eV 0) (DL.gCons (eV 4) (DL.gCons (eV 5) DL.gNil))))) DL.gNil))) (sApp 2 (eV 3)) sNext) →
      ∃ env' st', forGo tg body ((List.range w.length).map fun i : Nat => D.tup [.int (i : Int), .int (w.getD i 0)]) [some (.d (mkL m qs)), some (.d X), some (.r st.length), none, none, none] (st ++ [.lst []]) = .nx env' st' ∧ (∃ o3 o4 o5, env' = [some (.d (mkL m qs)), some (.d X), some (.r st.length), o3, o4, o5]) ∧ st' = st ++ [.lst (((List.range w.length).filter p).map fun (i : Nat) => .int (i : Int))] := by
    intro tg body htg hbody
    generalize hz : forGo _ _ _ _ _ = z
    obtain ⟨env', st', rfl, ⟨o3, o4, o5, rfl⟩, rfl⟩ := forZi hz (fun i : Nat => D.tup [.int (i : Int), .int (w.getD i 0)]) (List.range w.length) rfl (fun i env st' => (∃ o3 o4 o5, env = [some (.d (mkL m qs)), some (.d X), some (.r st.length), o3, o4, o5]) ∧ st' = st ++ [.lst (((List.range i).filter p).map fun (i : Nat) => .int (i : Int))]) ⟨⟨_, _, _, rfl⟩, by simp⟩ (by
      rintro i hi env st' ⟨⟨o3, o4, o5, rfl⟩, rfl⟩
      have hi : i < w.length := by simpa using hi
      rw [List.getElem_range, htg, hbody]
      generalize hx : w.getD i 0 = x
      refine ⟨_, by simp; rfl, ?_⟩
      have e : (w.take i).all (fun o => Fs qs x o) = p i := by rw [hp, ← hx]
      have e2 : ((List.range (i + 1)).filter p).map (fun (i : Nat) => D.int (i : Int)) = ((List.range i).filter p).map (fun (i : Nat) => D.int (i : Int)) ++ (if p i then [.int i] else []) := by
        rw [List.range_succ, List.filter_append, List.map_append]
        congr 1
        cases h : p i <;> simp [h]
      have hb : ((List.range i).filter p).length ≤ 1000 := Nat.le_trans (List.length_filter_le _ _) (by rw [List.length_range]; omega)
      have hlc : ∀ st', lcGo (lcStep (tN 5) bYes (eCall (run defs (k - 1)) 9 (DL.gCons (eV 0) (DL.gCons (eV 4) (DL.gCons (eV 5) DL.gNil)))) [some (.d (mkL m qs)), some (.d X), some (.r st.length), some (.d (.int i)), some (.d (.int x)), o5]) ((w.take i).map .int) st' = .ok ((w.take i).map fun o => .bl (Fs qs x o)) st'   := fun st' => by
        generalize hz : lcGo _ _ _ = z
        exact lcZ_map hz .int (w.take i) rfl (fun o => .bl (Fs qs x o)) (fun o _ => by simp [lcStep_def, hpass])
      have hlen : ((w.take i).map D.int).length ≤ 16777216 := by simp; omega
      rw [e2]
      rcases hsl i (st ++ [.lst (((List.range i).filter p).map fun (i : Nat) => .int (i : Int))]) with h | h
      · simp only [tp] at h
        simp [h, W.seqD, hlc, hlen, e, -List.map_take, -List.length_map, -List.all_eq_true]
        cases p i
        · simp
        · simp [sApp, show ((List.range i).filter p).length < 16777216 by omega]
      · simp [h, W.seqD, hlc, hlen, e, -List.map_take, -List.length_map, -List.all_eq_true]
        cases p i
        · simp
        · simp [sApp, show ((List.range i).filter p).length < 16777216 by omega])
    rw [List.length_range]
    exact ⟨_, _, rfl, ⟨_, _, _, rfl⟩, rfl⟩
  obtain ⟨env', st', h1, ⟨o3, o4, o5, rfl⟩, rfl⟩ := key _ _ rfl rfl
  have e9 : TR.fpl (Fs qs) w = (List.range w.length).filter p := by rw [hp]; rfl
  rw [e9]
  rcases hX with rfl | rfl
  · simp only [tp] at h1
    simp [b_front_places, tp, en, h1, sFrz, envR, -List.getD_eq_getElem?_getD]
  · simp [b_front_places, en, h1, sFrz, envR, -List.getD_eq_getElem?_getD]
end
end DLk41

namespace DLk41
open PySem L2 DL RW
section
variable {k : Nat} {m : Int} {qs : List (Int × Int)}
/-- the place of the least front letter -/
theorem pick {F : Int → Int → Bool} {v : List Int} (hne : v ≠ []) : ∃ q : Nat, (∀ (st : Stor) (w : W), w.asL st = some ((TR.fpl F v).map fun j : Nat => D.tup [.int (kap (v.getD j 0)), .int (j : Int)]) → dMin st [w] = some (.d (.tup [.int (kap (v.getD q 0)), .int (q : Int)]))) ∧ q ∈ TR.fpl F v ∧ (∀ j ∈ TR.fpl F v, ¬ ([kap (v.getD j 0), (j : Int)] : List Int) < [kap (v.getD q 0), (q : Int)]) := by
  obtain ⟨a, r, hr⟩ : ∃ a r, TR.fpl F v = a :: r := by
    cases h : TR.fpl F v with
    | nil => have := TR.fpl_ne (F := F) hne; rw [h] at this; cases this
    | cons a r => exact ⟨a, r, rfl⟩
  have hsp := minB_spec (f := fun j : Nat => ([kap (v.getD j 0), (j : Int)] : List Int)) (r := r) (b := a)
  refine ⟨minB (fun j : Nat => ([kap (v.getD j 0), (j : Int)] : List Int)) a r, fun st w h => ?_, ?_, ?_⟩
  · have := dMin_mk (st := st) (w := w) (f := fun j : Nat => ([kap (v.getD j 0), (j : Int)] : List Int)) (b := a) (r := r) (by rw [h, hr]; rfl)
    rw [this]
    rfl
  · rw [hr]
    exact hsp.1
  · rw [hr]
    exact hsp.2
theorem fpl_le {F : Int → Int → Bool} {v : List Int} : (TR.fpl F v).length ≤ v.length := Nat.le_trans (List.length_filter_le _ _) (by rw [List.length_range]; omega)
theorem r_ordered (hk : 15 ≤ k) (g : GoodL m qs) (w : List Int) (hw : w.length ≤ 1000) (st : Stor) : run defs k 14 [.d (mkL m qs), .d (.lst (w.map .int))] st = .ok (.d (tp (ordT (Fs qs) w))) st := by
  rw [u_ordered_in (by omega)]
  have t := tfQ g
  have hfront := fun w hw => @r_front (k - 1) m qs (by omega) w hw (.lst (w.map .int)) (.inr rfl)
  have hkey := @r_key (k - 1) (by omega)
  simp [b_ordered_in, tp, show w.length ≤ 16777216 by omega, rng1_int (n := (w.length : Int)) (by omega), rangeD_0]
  generalize hz : forGo _ _ _ _ _ = z
  obtain ⟨R, hR⟩ : ∃ R : Nat → Envi → Stor → Prop, R = fun i env st' => ∃ (ms v : List Int) (o4 o5 o6 : Option SV), env = [some (.d (mkL m qs)), some (.d (.lst (w.map .int))), some (.d (.lst (v.map .int))), some (.r st.length), o4, o5, o6] ∧ st' = st ++ [.lst (ms.map .int)] ∧ ordT (Fs qs) w = ms ++ ordT (Fs qs) v ∧ v.length + i = w.length ∧ ms.length = i := ⟨_, rfl⟩
  obtain ⟨env', st', rfl, hRe⟩ := forZi hz (fun i : Nat => D.int (i : Int)) (List.range w.length) (by simp) R (by rw [hR]; exact ⟨[], w, none, none, none, rfl, by simp, by simp, by simp, rfl⟩) (by
    intro i hi' env st' h
    rw [hR] at h
    obtain ⟨ms, v, o4, o5, o6, rfl, rfl, he, hl, hv⟩ := h
    have hi' : i < w.length := by simpa using hi'
    have hne : v ≠ [] := by intro e; rw [e] at hl; simp at hl; omega
    rw [List.getElem_range]
    refine ⟨_, by simp; rfl, ?_⟩
    have hf := hfront v (by omega) (st ++ [.lst (ms.map .int)])
    have hfl := fpl_le (F := Fs qs) (v := v)
    obtain ⟨q, hmin, hq1, hq2⟩ := pick (F := Fs qs) hne
    simp [hf, show (TR.fpl (Fs qs) v).length ≤ 16777216 by omega]
    generalize hz : lcGo _ _ _ = z
    have := lcZ_map hz (fun i : Nat => D.int (i : Int)) (TR.fpl (Fs qs) v) (by simp) (fun j => .tup [.int (kap (v.getD j 0)), .int (j : Int)]) (fun j hj => by
      simp [lcStep_def, ixA (TR.mem_fpl.mp hj).1, hkey, -List.getD_eq_getElem?_getD])
    subst this
    have hm := hmin (st ++ [.lst (ms.map .int)]) (.n ((TR.fpl (Fs qs) v).map fun j => .tup [.int (kap (v.getD j 0)), .int (j : Int)])) rfl
    have hq := (TR.mem_fpl.mp hq1).1
    have hlow := ordT_place t hq1 hq2
    have e1 := ixA hq
    have hc := TR.cut_len hq
    generalize (TR.fpl (Fs qs) v).map (fun j => D.tup [.int (kap (v.getD j 0)), .int (j : Int)]) = G at hm ⊢
    generalize hx : v.getD q 0 = x at *
    simp [hm, e1, cut_to, cut_from1, sApp, show ms.length < 16777216 by omega, show min q v.length + (v.length - (q + 1)) ≤ 16777216 by omega, -List.map_drop, -List.map_take]
    exact ⟨_, _, ⟨rfl, rfl⟩, by rw [hR]; exact ⟨ms ++ [x], v.take q ++ v.drop (q + 1), _, _, _, by simp; exact ⟨rfl, rfl, rfl⟩, by simp, by rw [he, hlow]; simp, by omega, by simp; omega⟩⟩)
  rw [hR] at hRe
  obtain ⟨ms, v, o4, o5, o6, rfl, rfl, he, hl, hv⟩ := hRe
  simp only [List.length_range] at hl
  have h0 : v = [] := List.length_eq_zero_iff.mp (by omega)
  subst h0
  rw [ordT_nil, List.append_nil] at he
  rw [he]
  simp [dTuple, W.asL]
theorem r_leastT (hk : 20 ≤ k) (g : GoodL m qs) (w : List Int) (hw : w.length ≤ 1000) (st : Stor) : run defs k 15 [.d (mkL m qs), .d (tp w)] st = .ok (.d (tp (leastT (Fs qs) w))) st := by
  rw [u_least_in (by omega)]
  have h1 := @r_reduced (k - 1) m qs (by omega) g w hw
  have hl := (red_len (tfQ g) w).2
  have h2 := @r_ordered (k - 1) m qs (by omega) g (red (Fs qs) w) (by omega)
  simp [b_least_in, h1, h2, leastT]
end
end DLk41

namespace DLk41
open PySem L2 DL RW
section
variable {k : Nat} {m : Int} {qs : List (Int × Int)}
structure Wt (m : Int) (w : List Int) : Prop where
  rg : ∀ x ∈ w, 0 < x.natAbs ∧ (x.natAbs : Int) ≤ m
  len : w.length ≤ 24
def isS (m : Int) (d : D) : Bool := match d with
  | .int v => decide (0 < (v.natAbs : Int)) && decide ((v.natAbs : Int) ≤ m)
  | _ => false
theorem r_signed (hk : 3 ≤ k) {d : D} (h : dat d = true) (st : Stor) : run defs k 6 [.d (mkL m qs), .d d] st = .ok (.d (.bl (isS m d))) st := by
  rw [u_is_signed hk]
  have e0 : ∀ st, dIx st (.d (mkL m qs)) (.d (.int 0)) = some (.d (.int m)) := fun st => by simp [mkL]
  cases d with
  | int v =>
    by_cases h1 : 0 < (v.natAbs : Int)
    · have : ¬ v = 0 := by omega
      by_cases h2 : (v.natAbs : Int) ≤ m <;> simp [b_is_signed, isS, abs_if, e0, h1, h2, this]
    · have : v = 0 := by omega
      subst this
      simp [b_is_signed, isS, e0]
  | fn i => simp [dat] at h
  | scr i => simp [dat] at h
  | _ => simp [b_is_signed, isS]
theorem r_turned_of (hk : 6 ≤ k) {w : List Int} (h : Wt m w) (st : Stor) : run defs k 7 [.d (mkL m qs), .d (tp w), .d (.int 24)] st = .ok (.d (.bl true)) st := by
  rw [u_is_turned_of (by omega)]
  have hl := h.len
  have ht := @r_tupof (k - 1) (by omega) (tp w) rfl 0 24
  have e0 : isT_ (tp w) 0 24 = true := by simp [isT_, tp]; omega
  rw [e0] at ht
  simp [b_is_turned_of, ht]
  simp [tp, show w.length ≤ 16777216 by omega]
  generalize hz : lcGo _ _ _ = z
  have := lcZ_map hz .int w rfl (fun x => .bl (isS m (.int x))) (fun x hx => by simp [lcStep_def, @r_signed (k - 1) m qs (by omega) (.int x) rfl])
  subst this
  have e2 : (w.all fun x => isS m (.int x)) = true := by
    rw [List.all_eq_true]
    intro x hx
    have := h.rg x hx
    simp [isS]
    omega
  simp only [bind_ok, dAll_map, ofO_some, e2]
  simp
theorem r_need_turned (hk : 10 ≤ k) {w : List Int} (h : Wt m w) (st : Stor) : run defs k 8 [.d (mkL m qs), .d (tp w)] st = .ok (.d .non) st := by
  rw [u_need_turned (by omega)]
  simp [b_need_turned, @r_turned_of (k - 1) m qs (by omega) w h]
end
end DLk41

namespace DLk41
open PySem L2 DL RW
section
variable {k : Nat} {m : Int} {qs : List (Int × Int)}
theorem r_somer (hk : 6 ≤ k) {ds : List D} (h1 : 0 < ds.length) (h2 : ds.length < 1000000) {a b : Int} (ha : 0 ≤ a) (hb : 0 ≤ b) (rest : Stor) : ∃ d a' b', run defs k 28 [.r 0, .d (.lst ds)] (.lst [.int a, .int b] :: rest) = .ok (.d d) (.lst [.int a', .int b'] :: rest) ∧ d ∈ ds ∧ 0 ≤ a' ∧ 0 ≤ b' := by
  obtain ⟨r, a', b', e, r1, r2, ha', hb'⟩ := r_rollr (k := k - 1) (by omega) (many := (ds.length : Int)) (by omega) (by omega) ha hb rest
  obtain ⟨n, rfl⟩ : ∃ n : Nat, r = n := ⟨r.toNat, by omega⟩
  have hn : n < ds.length := by omega
  refine ⟨ds[n], a', b', ?_, List.getElem_mem hn, ha', hb'⟩
  rw [u__law_some (by omega)]
  have e1 : atI ds (n : Int) = some ds[n] := by rw [atI_n]; simp [hn]
  simp [b__law_some, e, e1]
/-- a word of signed letters is drawn -/
theorem r_lword (hk : 10 ≤ k) (g : GoodL m qs) {most : Int} (h0 : 0 ≤ most) (h1 : most ≤ 20) {st : Stor} (hc : Cup st) : ∃ (w : List Int) (st' : Stor), run defs k 32 [.r 0, .d (mkL m qs), .d (.int most)] st = .ok (.d (tp w)) st' ∧ (∀ x ∈ w, 0 < x.natAbs ∧ (x.natAbs : Int) ≤ m) ∧ (w.length : Int) ≤ most ∧ Cup st' := by
  obtain ⟨a0, b0, rfl, ha0, hb0⟩ := hc
  obtain ⟨r, a1, b1, e1, r1, r2, ha1, hb1⟩ := r_rollr (k := k - 1) (by omega) (many := most + 1) (by omega) (by omega) ha0 hb0 [.lst []]
  have m1 := g.m1
  have m8 := g.m8
  rw [u__law_word (by omega)]
  simp [b__law_word, e1, rng1_int (n := r) (by omega), rangeD_0]
  generalize hz : forGo _ _ _ _ _ = z
  obtain ⟨R, hR⟩ : ∃ R : Nat → Envi → Stor → Prop, R = fun i env st' => ∃ (w : List Int) (o4 : Option SV) (a b : Int), env = [some (.r 0), some (.d (mkL m qs)), some (.d (.int most)), some (.r 1), o4] ∧ st' = [.lst [.int a, .int b], .lst (w.map .int)] ∧ 0 ≤ a ∧ 0 ≤ b ∧ w.length = i ∧ ∀ x ∈ w, 0 < x.natAbs ∧ (x.natAbs : Int) ≤ m := ⟨_, rfl⟩
  obtain ⟨env', st', rfl, hRe⟩ := forZi hz (fun i : Nat => D.int (i : Int)) (List.range r.toNat) rfl R (by rw [hR]; exact ⟨[], none, a1, b1, rfl, rfl, ha1, hb1, rfl, by simp⟩) (by
    intro i hi env st h
    rw [hR] at h
    obtain ⟨w, o4, a, b, rfl, rfl, ha, hb, hl, hw⟩ := h
    have hi : i < r.toNat := by simpa using hi
    obtain ⟨q, a2, b2, e2, q1, q2, ha2, hb2⟩ := r_rollr (k := k - 1) (by omega) (many := m) (by omega) (by omega) ha hb [.lst (w.map .int)]
    obtain ⟨d, a3, b3, e3, hd, ha3, hb3⟩ := @r_somer (k - 1) (by omega) [.int 1, .int 1, .int (-1)] (by simp) (by simp) a2 b2 ha2 hb2 [.lst (w.map .int)]
    obtain ⟨s, rfl, hs⟩ : ∃ s : Int, d = .int s ∧ s.natAbs = 1 := by
      simp at hd
      rcases hd with rfl | rfl
      · exact ⟨1, rfl, rfl⟩
      · exact ⟨-1, rfl, rfl⟩
    have hm : ∀ st, dMul st (.d (.int (1 + q))) (.d (.int s)) = _ := fun st => dMul_ii (okMul_r (by omega))
    have e0 : ∀ st, dIx st (.d (mkL m qs)) (.d (.int 0)) = some (.d (.int m)) := fun st => by simp [mkL]
    have hx : ((1 + q) * s).natAbs = (1 + q).natAbs := by rw [Int.natAbs_mul, hs, Nat.mul_one]
    refine ⟨_, by simp; rfl, ?_⟩
    simp [e0, e2, e3, hm, sApp, show w.length < 16777216 by omega]
    exact ⟨_, _, ⟨rfl, rfl⟩, by rw [hR]; exact ⟨w ++ [(1 + q) * s], _, a3, b3, rfl, by simp, ha3, hb3, by simp [hl], fun x hx' => by
      rcases List.mem_append.mp hx' with h | h
      · exact hw x h
      · rw [List.mem_singleton.mp h, hx]
        omega⟩⟩)
  rw [hR] at hRe
  obtain ⟨w, o4, a, b, rfl, rfl, ha, hb, hl, hw⟩ := hRe
  rw [List.length_range] at hl
  exact ⟨w, [.lst [.int a, .int b]], by simp [dTuple, W.asL, tp], fun x hx => by have := hw x hx; omega, by omega, a, b, rfl, ha, hb⟩
end
end DLk41

namespace DLk41
open PySem L2 DL RW
theorem any_tp {x : List Int} : ∀ {l : List (List Int)}, ((l.map tp).any fun z => D.eqv z (tp x)) = decide (x ∈ l)
  | [] => rfl
  | y :: l => by
    rw [List.map_cons, List.any_cons, any_tp]
    simp only [tp, eqv_tt, eqvL_ints]
    by_cases h : y = x
    · simp [h]
    · have : ¬ x = y := fun e => h e.symm
      simp [h, this]
theorem okL_tp {n : Nat} {l : List (List Int)} : D.okL (n + 1) (l.map tp) = true := by
  rw [okL_iff]
  intro d hd
  obtain ⟨x, _, rfl⟩ := List.mem_map.mp hd
  simp [tp]
section
variable {k : Nat} {m : Int} {qs : List (Int × Int)}
theorem r_lfree (hk : 3 ≤ k) (g : GoodL m qs) (a b : Int) (st : Stor) : run defs k 33 [.d (mkL m qs), .d (.int a), .d (.int b)] st = .ok (.d (.bl (Fs qs a b))) st := by
  rw [u__law_free hk]
  have e1 : ∀ st, dIx st (.d (mkL m qs)) (.d (.int 1)) = some (.d (.tup (qs.map mkQ))) := fun st => by simp [mkL]
  have hF : Fs qs a b = decide (((if (b.natAbs : Int) < (a.natAbs : Int) then (b.natAbs : Int) else (a.natAbs : Int)) - 1, (if (b.natAbs : Int) > (a.natAbs : Int) then (b.natAbs : Int) else (a.natAbs : Int)) - 1) ∈ qs) := by
    unfold Fs freeQ
    by_cases h : (a.natAbs : Int) < (b.natAbs : Int)
    · rw [if_pos (by omega), if_neg (by omega), if_pos (by omega)]
    · rw [if_neg (by omega)]
      by_cases h2 : (b.natAbs : Int) < (a.natAbs : Int)
      · rw [if_pos h2, if_neg (by omega)]
      · have : (a.natAbs : Int) = (b.natAbs : Int) := by omega
        rw [if_neg h2, if_neg (by omega), this]
  rw [hF]
  simp [b__law_free, abs_if, e1, any_qs, -List.any_map]
theorem r_lorder (hk : 3 ≤ k) (w : List Int) (hw : w.length ≤ 1000) (st : Stor) : run defs k 35 [.d (tp w)] st = .ok (.d (tp (ordl w))) st := by
  rw [u__law_order hk]
  simp [b__law_order, tp, show w.length ≤ 16777216 by omega]
  generalize hz : lcGo _ _ _ = z
  have := lcZ_map hz .int w rfl (fun a => .int (2 * (a.natAbs : Int) - if a > 0 then 1 else 0)) (fun a _ => by
    have hm : ∀ st b, dMul st (.d (.int 2)) (.d (.int b)) = _ := fun st b => dMul_ii (okMul_l (by decide))
    by_cases h : a > 0
    · simp [lcStep_def, abs_if, hm, h]
    · simp [lcStep_def, abs_if, hm, h])
  subst this
  simp [dTuple, W.asL, ordl]
end
end DLk41

namespace DLk41
open PySem L2 DL RW TR
section
variable {k : Nat} {m : Int} {qs : List (Int × Int)}
theorem tupI_tp {w : List Int} : (W.d (.tup (w.map .int))).tupI = some w := tupI_ints
theorem r_class (hk : 10 ≤ k) (g : GoodL m qs) {w : List Int} (hw : w.length ≤ 7) (st : Stor) : ∃ fs : List (List Int), run defs k 34 [.d (mkL m qs), .d (tp w)] st = .ok (.n (fs.map tp)) st ∧ (∀ x, x ∈ fs ↔ Alike (Fs qs) w x) ∧ fs.Nodup ∧ fs.length ≤ 823543 := by
  have t := tfQ g
  have few : ∀ {fs : List (List Int)}, (∀ x ∈ fs, Alike (Fs qs) w x) → fs.Nodup → fs.length ≤ 823543 := fun h nd => Nat.le_trans (class_few h nd) (pow_few hw)
  have hfree := @r_lfree (k - 1) m qs (by omega) g
  have hm : ∀ st, dMul st (.d (.int (w.length : Int))) (.d (.int (w.length : Int))) = _ := fun st => dMul_ii (okMul_l (by omega))
  have hsq : ((w.length : Int) * (w.length : Int)) = ((w.length * w.length : Nat) : Int) := by simp
  have hsq2 : w.length * w.length ≤ 49 := Nat.mul_le_mul hw hw
  rw [u__law_class (by omega)]
  simp [b__law_class, sParN, itD1, itE, tp, tupI_tp, hm]
  rw [hsq, rng1_int (by omega), Int.toNat_natCast, rangeD_0]
  simp only [then_ok, bind_ok]
  generalize hz : forGo _ _ _ _ _ = z
  obtain ⟨R, hR⟩ : ∃ R : Nat → Envi → Stor → Prop, R = fun i env st' => ∃ (fs fr : List (List Int)) (tl : Stor) (o4 o5 o6 o7 o8 : Option SV), env = [some (.d (mkL m qs)), some (.d (.tup (w.map .int))), some (.r st.length), some (.d (.lst (fr.map tp))), o4, o5, o6, o7, o8] ∧ st' = st ++ .dct (kd fs) :: tl ∧ Srch (Fs qs) w i fs fr := ⟨_, rfl⟩
  obtain ⟨env', st', rfl, h⟩ := forZi hz (fun (i : Nat) => D.int (i : Int)) (List.range (w.length * w.length)) (by simp) R (by rw [hR]; exact ⟨[w], [w], [], none, none, none, none, none, rfl, rfl, Srch.start w⟩) (by
    intro i hi env st' h
    rw [hR] at h
    obtain ⟨fs, fr, tl, o4, o5, o6, o7, o8, rfl, rfl, S⟩ := h
    rw [List.getElem_range]
    refine ⟨_, by simp; rfl, ?_⟩
    simp
    generalize hz : forGo _ _ _ _ _ = z
    obtain ⟨R1, hR1⟩ : ∃ R : Nat → Envi → Stor → Prop, R = fun i' env st' => ∃ (lg : List (List Int)) (o6 o7 o8 : Option SV), env = [some (.d (mkL m qs)), some (.d (.tup (w.map .int))), some (.r st.length), some (.d (.lst (fr.map tp))), some (.d (.int i)), some (.r (st.length + (tl.length + 1))), o6, o7, o8] ∧ st' = st ++ .dct (kd (fs ++ lg)) :: (tl ++ [.lst (lg.map tp)]) ∧ (∀ x ∈ fs ++ lg, Alike (Fs qs) w x) ∧ (fs ++ lg).Nodup ∧ ∀ x ∈ fr.take i', ∀ y, Sw (Fs qs) x y → y ∈ fs ++ lg := ⟨_, rfl⟩
    obtain ⟨env', st', rfl, h1⟩ := forZi hz tp fr rfl R1 (by rw [hR1]; exact ⟨[], _, _, _, rfl, by simp, by simpa using S.al, by simpa using S.nd, by simp⟩) (by
      intro i' hi' env st' h
      rw [hR1] at h
      obtain ⟨lg, o6, o7, o8, rfl, rfl, al, nd, done⟩ := h
      have hal := S.al _ (S.sub _ (List.getElem_mem hi'))
      have hown := hal.len
      generalize hx : fr[i'] = own at hal hown ⊢
      refine ⟨_, by simp; rfl, ?_⟩
      simp [tp, show own.length ≤ 16777216 by omega]
      rw [rng1_int (by omega), show ((own.length : Int) - 1).toNat = own.length - 1 by omega, rangeD_0]
      simp
      generalize hz : forGo _ _ _ _ _ = z
      obtain ⟨R2, hR2⟩ : ∃ R : Nat → Envi → Stor → Prop, R = fun j env st' => ∃ (lg : List (List Int)) (o7 o8 : Option SV), env = [some (.d (mkL m qs)), some (.d (.tup (w.map .int))), some (.r st.length), some (.d (.lst (fr.map tp))), some (.d (.int i)), some (.r (st.length + (tl.length + 1))), some (.d (.tup (own.map .int))), o7, o8] ∧ st' = st ++ .dct (kd (fs ++ lg)) :: (tl ++ [.lst (lg.map tp)]) ∧ (∀ x ∈ fs ++ lg, Alike (Fs qs) w x) ∧ (fs ++ lg).Nodup ∧ (∀ x ∈ fr.take i', ∀ y, Sw (Fs qs) x y → y ∈ fs ++ lg) ∧ ∀ a, a < j → Fs qs (own.getD a 0) (own.getD (a + 1) 0) = true → sa own a ∈ fs ++ lg := ⟨_, rfl⟩
      obtain ⟨env', st', rfl, h2⟩ := forZi hz (fun (i : Nat) => D.int (i : Int)) (List.range (own.length - 1)) rfl R2 (by rw [hR2]; exact ⟨lg, _, _, rfl, rfl, al, nd, done, fun a ha => absurd ha (Nat.not_lt_zero a)⟩) (by
        intro j hj env st' h
        rw [hR2] at h
        obtain ⟨lg, o7, o8, rfl, rfl, al, nd, done, dow⟩ := h
        have hj : j < own.length - 1 := by simpa using hj
        rw [List.getElem_range]
        refine ⟨_, by simp; rfl, ?_⟩
        have e1 : atI (own.map D.int) (j : Int) = some (.int (own.getD j 0)) := by
          rw [atI_n]
          simp [show j < own.length by omega]
        have e2 : atI (own.map D.int) ((j : Int) + 1) = some (.int (own.getD (j + 1) 0)) := by
          rw [show (j : Int) + 1 = ((j + 1 : Nat) : Int) by omega, atI_n]
          simp [show j + 1 < own.length by omega]
        have e3 : DL.cutD (own.map D.int) (some ((j : Int) + 2)) none = (own.drop (j + 2)).map .int := by
          rw [cutD_fromI (by omega), List.map_drop]
          congr 1
        have esa : List.take j (List.map D.int own) ++ D.int (own.getD (j + 1) 0) :: D.int (own.getD j 0) :: List.drop (j + 2) (List.map D.int own) = (sa own j).map .int := by simp [sa]
        have hsw : Fs qs (own.getD j 0) (own.getD (j + 1) 0) = true → Alike (Fs qs) w (sa own j) := fun h => hal.trans (Sw.alike (sw_at.mpr ⟨j, by omega, h, rfl⟩))
        have fl := few al nd
        rw [List.length_append] at fl
        have hnot : dNotInC (st ++ .dct (kd (fs ++ lg)) :: (tl ++ [.lst (lg.map tp)])) (.d (.tup ((sa own j).map .int))) (.r st.length) = some (.d (.bl (!decide (sa own j ∈ fs ++ lg)))) := by
          rw [dNotInC_c cellT_mid, valD_kd]
        have hfr := hfree (own.getD j 0) (own.getD (j + 1) 0) (st ++ .dct (kd (fs ++ lg)) :: (tl ++ [.lst (lg.map tp)]))
        generalize hx1 : own.getD j 0 = x at *
        generalize hx2 : own.getD (j + 1) 0 = y at *
        cases hF : Fs qs x y with
        | false =>
          rw [hF] at hfr
          simp [e1, e2, e3, esa, hfr, show min j own.length + 2 ≤ 16777216 by omega, show min j own.length + 2 + (own.length - (j + 2)) ≤ 16777216 by omega]
          refine ⟨_, _, ⟨rfl, rfl⟩, ?_⟩
          rw [hR2]
          refine ⟨lg, _, _, rfl, rfl, al, nd, done, fun a ha' h => ?_⟩
          by_cases haj : a < j
          · exact dow a haj h
          · have : a = j := by omega
            subst this
            rw [hx1, hx2, hF] at h
            cases h
        | true =>
          rw [hF] at hfr
          have last : ∀ {lg' : List (List Int)}, sa own j ∈ fs ++ lg' → (∀ a, a < j → Fs qs (own.getD a 0) (own.getD (a + 1) 0) = true → sa own a ∈ fs ++ lg') → ∀ a, a < j + 1 → Fs qs (own.getD a 0) (own.getD (a + 1) 0) = true → sa own a ∈ fs ++ lg' := fun hm hd a ha' h => by
            by_cases haj : a < j
            · exact hd a haj h
            · have : a = j := by omega
              subst this
              exact hm
          by_cases hm : sa own j ∈ fs ++ lg
          · rw [decide_eq_true hm] at hnot
            simp [e1, e2, e3, esa, hfr, hnot, show min j own.length + 2 ≤ 16777216 by omega, show min j own.length + 2 + (own.length - (j + 2)) ≤ 16777216 by omega]
            refine ⟨_, _, ⟨rfl, rfl⟩, ?_⟩
            rw [hR2]
            exact ⟨lg, _, _, rfl, rfl, al, nd, done, last hm dow⟩
          · rw [decide_eq_false hm] at hnot
            have mono : ∀ {z : List Int}, z ∈ fs ++ lg → z ∈ fs ++ (lg ++ [sa own j]) := fun h => by
              rw [← List.append_assoc]
              exact List.mem_append_left _ h
            have al2 : ∀ z ∈ fs ++ (lg ++ [sa own j]), Alike (Fs qs) w z := fun z hz => by
              rw [← List.append_assoc] at hz
              rcases List.mem_append.mp hz with h | h
              · exact al z h
              · rw [List.mem_singleton.mp h]
                exact hsw hF
            have nd2 : (fs ++ (lg ++ [sa own j])).Nodup := by
              rw [← List.append_assoc, List.nodup_append]
              refine ⟨nd, by simp, fun a h1 b h2 e => hm ?_⟩
              rw [List.mem_singleton] at h2
              rw [← h2, ← e]
              exact h1
            have last2 := last (lg' := lg ++ [sa own j]) (by simp) fun a h1 h2 => mono (dow a h1 h2)
            have hput : putD (kd (fs ++ lg)) (sa own j) (.bl true) = kd (fs ++ (lg ++ [sa own j])) := by rw [putD_kd hm, List.append_assoc]
            have hkl : (kd (fs ++ lg)).length < 16777216 := by rw [kd_len, List.length_append]; omega
            simp [e1, e2, e3, esa, hfr, hnot, sPutD, tupI_tp, hput, hkl, show min j own.length + 2 ≤ 16777216 by omega, show min j own.length + 2 + (own.length - (j + 2)) ≤ 16777216 by omega, sApp, envR, show lg.length < 16777216 by omega]
            refine ⟨_, _, ⟨rfl, rfl⟩, ?_⟩
            rw [hR2]
            exact ⟨lg ++ [sa own j], _, _, rfl, by simp [tp], al2, nd2, fun z h1 u h2 => mono (done z h1 u h2), last2⟩)
      rw [hR2] at h2
      obtain ⟨lg', o7, o8, rfl, rfl, al', nd', done', dow⟩ := h2
      simp only [List.length_range] at dow
      have done2 : ∀ x ∈ fr.take (i' + 1), ∀ y, Sw (Fs qs) x y → y ∈ fs ++ lg' := fun z hz u hu => by
        rw [List.take_succ_eq_append_getElem hi', hx] at hz
        rcases List.mem_append.mp hz with h | h
        · exact done' z h u hu
        · rw [List.mem_singleton] at h
          subst h
          obtain ⟨a, h1, h2, rfl⟩ := sw_at.mp hu
          exact dow a (by omega) h2
      refine ⟨_, _, rfl, ?_⟩
      rw [hR1]
      exact ⟨lg', _, _, _, rfl, rfl, al', nd', done2⟩)
    rw [hR1] at h1
    obtain ⟨lg, o6, o7, o8, rfl, rfl, al, nd, done⟩ := h1
    rw [List.take_length] at done
    have S2 := S.next al nd done
    simp [sFrz, envR]
    refine ⟨_, _, ⟨rfl, rfl⟩, ?_⟩
    rw [hR]
    exact ⟨fs ++ lg, lg, tl ++ [.dead], _, _, _, _, _, rfl, by simp, S2⟩)
  rw [hR] at h
  obtain ⟨fs, fr, tl, o4, o5, o6, o7, o8, rfl, rfl, S⟩ := h
  rw [List.length_range] at S
  refine ⟨fs, ?_, fun x => ⟨S.al x, fun h => S.ball x (way_all t h)⟩, S.nd, few S.al S.nd⟩
  have hk2 : dListK (st ++ .dct (kd fs) :: tl) [.r st.length] = some (.n (fs.map tp)) := by rw [dListK_c cellT_mid, kd_keys]; rfl
  simp [hk2]
end
end DLk41

namespace DLk41
open PySem L2 DL RW TR
section
variable {k : Nat} {m : Int} {qs : List (Int × Int)}
theorem r_lreduced (hk : 15 ≤ k) (g : GoodL m qs) {w : List Int} (hw : w.length ≤ 7) (st : Stor) : ∃ v : List Int, run defs k 36 [.d (mkL m qs), .d (tp w)] st = .ok (.d (tp v)) st ∧ Eqv (Fs qs) w v ∧ Irr (Fs qs) v ∧ v.length ≤ w.length ∧ ∀ z ∈ v, z ∈ w := by
  have t := tfQ g
  have hcls := fun v hv st => @r_class (k - 1) m qs (by omega) g v hv st
  rw [u__law_reduced (by omega)]
  simp [b__law_reduced, tp]
  rw [rng1_int (by omega), Int.toNat_natCast, rangeD_0]
  simp only [then_ok, bind_ok]
  generalize hz : forGo _ _ _ _ _ = z
  obtain ⟨R, hR⟩ : ∃ R : Nat → Envi → Stor → Prop, R = fun i env st' => ∃ (v : List Int) (o2 o3 o4 o5 : Option SV), env = [some (.d (mkL m qs)), some (.d (.tup (v.map .int))), o2, o3, o4, o5] ∧ st' = st ∧ Eqv (Fs qs) w v ∧ v.length ≤ w.length ∧ (Irr (Fs qs) v ∨ v.length + 2 * i ≤ w.length) ∧ ∀ z ∈ v, z ∈ w := ⟨_, rfl⟩
  obtain ⟨env', st', rfl, h⟩ := forZi hz (fun (i : Nat) => D.int (i : Int)) (List.range w.length) rfl R (by rw [hR]; exact ⟨w, _, _, _, _, rfl, rfl, .refl _, Nat.le_refl _, .inr (by omega), fun z hz => hz⟩) (by
    intro i hi env st' h
    rw [hR] at h
    obtain ⟨v, o2, o3, o4, o5, rfl, rfl, h1, h2, h3, h4⟩ := h
    rw [List.getElem_range]
    refine ⟨_, by simp; rfl, ?_⟩
    obtain ⟨fs, hc, hfs, _, hfl⟩ := hcls v (by omega) st'
    simp only [tp] at hc
    have hlen : ∀ x ∈ fs, x.length ≤ 7 := fun x hx => by rw [← ((hfs x).mp hx).len]; omega
    simp [hc]
    generalize hz : forGo _ _ _ _ _ = z
    obtain ⟨R1, hR1⟩ : ∃ R : Nat → Envi → Stor → Prop, R = fun i' env st'' => ∃ (o4 o5 : Option SV), env = [some (.d (mkL m qs)), some (.d (.tup (v.map .int))), some (.d (.int i)), some (.d (.lst (((fs.take i').flatMap fitof).map tp))), o4, o5] ∧ st'' = st' := ⟨_, rfl⟩
    obtain ⟨env', st'', rfl, h5⟩ := forZi hz tp fs rfl R1 (by rw [hR1]; exact ⟨_, _, by simp; exact ⟨rfl, rfl⟩, rfl⟩) (by
      intro j hj env st'' h
      rw [hR1] at h
      obtain ⟨o4, o5, rfl, rfl⟩ := h
      have hl7 := hlen _ (List.getElem_mem hj)
      have hlt : ((fs.take j).flatMap fitof).length ≤ 823543 * 7 := by
        refine Nat.le_trans (fits_len (n := 7) fun x hx => hlen x (List.mem_of_mem_take hx)) ?_
        rw [List.length_take]
        exact Nat.mul_le_mul_right _ (by omega)
      have htk : (fs.take (j + 1)).flatMap fitof = (fs.take j).flatMap fitof ++ fitof fs[j] := by
        rw [List.take_succ_eq_append_getElem hj, List.flatMap_append]
        simp
      generalize hL : (fs.take j).flatMap fitof = L at *
      generalize fs[j] = own at *
      refine ⟨_, by simp; rfl, ?_⟩
      simp [tp]
      rw [rng1_int (by omega), show ((own.length : Int) - 1).toNat = own.length - 1 by omega, rangeD_0]
      simp only [bind_ok, then_ok]
      generalize hz : lcGo _ _ _ = z
      have := lcZ_if hz (fun (i : Nat) => D.int (i : Int)) (List.range (own.length - 1)) rfl (fitP own) (fun a => tp (cut2 own a)) (fun a ha => by
        have ha : a < own.length - 1 := by simpa using ha
        have e1 := ixA (l := own) (n := a) (by omega)
        have e2 := ixA (l := own) (n := a + 1) (by omega)
        rw [show ((a + 1 : Nat) : Int) = (a : Int) + 1 by omega] at e2
        have e3 : DL.cutD (own.map D.int) (some ((a : Int) + 2)) none = (own.drop (a + 2)).map .int := by
          rw [cutD_fromI (by omega), List.map_drop]
          congr 1
        have e4 := cut_to (l := own) (n := a)
        unfold fitP cut2
        generalize own.getD a 0 = x at *
        generalize own.getD (a + 1) 0 = y at *
        by_cases h : x = -y
        · simp [lcStep_def, e1, e2, e3, e4, h, tp, show min a own.length + (own.length - (a + 2)) ≤ 16777216 by omega, -List.map_take, -List.map_drop]
        · simp [lcStep_def, e1, e2, h])
      subst this
      have hfo := fitof_len (own := own)
      have hml : (List.map (fun a => tp (cut2 own a)) (List.filter (fitP own) (List.range (own.length - 1)))) = (fitof own).map tp := by
        unfold fitof
        rw [List.map_map]
        rfl
      rw [hml]
      generalize fitof own = f at *
      have hadd : ∀ st, dAdd st (.d (.lst (L.map tp))) (.n (f.map tp)) = some (.n ((L ++ f).map tp)) := fun st => by
        simp [show L.length + f.length ≤ 16777216 by omega]
      simp [hadd, show own.length - 1 ≤ 16777216 by omega, -List.map_append]
      refine ⟨_, _, ⟨rfl, rfl⟩, ?_⟩
      rw [hR1]
      exact ⟨_, _, by rw [htk], rfl⟩)
    rw [hR1] at h5
    obtain ⟨o4', o5', rfl, rfl⟩ := h5
    rw [List.take_length]
    rcases fit_turn t hfs h1 h2 h3 h4 with ⟨e, hirr⟩ | ⟨x, r, e, g1, g2, g3, g4⟩
    · rw [e]
      simp
      refine ⟨_, _, ⟨rfl, rfl⟩, ?_⟩
      rw [hR]
      exact ⟨v, _, _, _, _, rfl, rfl, h1, h2, .inl hirr, h4⟩
    · rw [e]
      have okl := okL_tp (n := 62) (l := x :: r)
      have ene : D.eqvL ((x :: r).map tp) [] = false := rfl
      have e0 : atI ((x :: r).map tp) 0 = some (tp x) := by rw [show (0 : Int) = ((0 : Nat) : Int) from rfl, atI_n]; rfl
      have hne : ∀ st, dNe st (.d (.lst ((x :: r).map tp))) (.n []) = some (.d (.bl true)) := fun st => by
        simp [okl, ene, -List.map_cons]
      generalize (x :: r).map tp = G at *
      simp [hne, e0]
      refine ⟨_, _, ⟨rfl, rfl⟩, ?_⟩
      rw [hR]
      exact ⟨x, _, _, _, _, rfl, rfl, g1, g2, g3, g4⟩)
  rw [hR] at h
  obtain ⟨v, o2, o3, o4, o5, rfl, rfl, h1, h2, h3, h4⟩ := h
  rw [List.length_range] at h3
  refine ⟨v, by simp, h1, ?_, h2, h4⟩
  rcases h3 with h | h
  · exact h
  · have : v.length = 0 := by omega
    rw [List.length_eq_zero_iff.mp this]
    exact irr_nil
end
end DLk41

namespace DLk41
open PySem L2 DL RW TR
section
variable {k : Nat} {m : Int} {qs : List (Int × Int)}
theorem r_lleast (hk : 20 ≤ k) (g : GoodL m qs) {w : List Int} (hw : w.length ≤ 7) (h0 : ∀ a ∈ w, a ≠ 0) (st : Stor) : run defs k 37 [.d (mkL m qs), .d (tp w)] st = .ok (.d (tp (leastT (Fs qs) w))) st := by
  have t := tfQ g
  obtain ⟨v, hr, he, hi, hl, hv⟩ := @r_lreduced (k - 1) m qs (by omega) g w hw st
  obtain ⟨fs, hc, hfs, nd, hfl⟩ := @r_class (k - 1) m qs (by omega) g v (by omega) st
  have hb0 : ordT (Fs qs) v ∈ fs := (hfs _).mpr (ordT_alike t v)
  have hmin : ∀ b ∈ fs, b ≠ ordT (Fs qs) v → ordl (ordT (Fs qs) v) < ordl b := fun b hb hne => ordT_least t ((hfs b).mp hb) (fun a ha => h0 a (hv a ha)) hne
  have hlen : ∀ x ∈ fs, x.length ≤ 7 := fun x hx => by rw [← ((hfs x).mp hx).len]; omega
  have hE : leastT (Fs qs) w = ordT (Fs qs) v := by rw [leastT_eqv t he, leastT_irr t hi]
  rw [hE]
  obtain ⟨r, hs, hrl⟩ := sort_head (f := ordl) (g := fun x => x) hb0 hmin
  rw [u__law_least (by omega)]
  simp [b__law_least, hr, hc, show fs.length ≤ 16777216 by omega]
  generalize hz : lcGo _ _ _ = z
  have := lcZ_map hz tp fs rfl (prD ordl fun x => x) (fun x hx => by
    have := @r_lorder (k - 1) (by omega) x (by have := hlen x hx; omega)
    simp only [tp] at this
    simp [lcStep_def, this, DL.prD, tp])
  subst this
  have e1 : ∀ st, dSorted st [.n (fs.map (prD ordl fun x => x))] = some (.n ((ordT (Fs qs) v :: r).map (prD ordl fun x => x))) := fun st => by
    rw [dSorted_w, if_pos sortOk_pr, sortD_pr, hs]
  have hl2 : ((ordT (Fs qs) v :: r).map (prD ordl fun x => x)).length ≤ 16777216 := by
    rw [List.length_map, List.length_cons]; omega
  generalize hG : ordT (Fs qs) v :: r = G at *
  simp only [bind_ok, e1, ofO_some, W.seqD]
  generalize hL : G.map (prD ordl fun x => x) = L at *
  simp [hl2]
  generalize hz : lcGo _ _ _ = z
  have := lcZ_map hz (prD ordl fun x => x) G hL.symm tp (fun x _ => by simp [lcStep_def, DL.prD, tp])
  subst this
  have e0 : atI (G.map tp) 0 = some (tp (ordT (Fs qs) v)) := by rw [show (0 : Int) = ((0 : Nat) : Int) from rfl, atI_n, ← hG]; rfl
  simp [e0]
end
end DLk41

/-! what stays the same as a turned word is made least -/
namespace RW
open TR
section
variable {F : Int → Int → Bool} {α : Type}
theorem red_inv (t : Tf F) (f : List Int → α) (ha : ∀ x y, Alike F x y → f x = f y) (hs : ∀ u a v, f (u ++ a :: -a :: v) = f (u ++ v)) (w : List Int) : f (red F w) = f w := by
  have key : ∀ c v : List Int, f (red F c.reverse ++ v) = f (c.reverse ++ v) := by
    intro c
    induction c with
    | nil => intro v; rfl
    | cons a c ih =>
      intro v
      have e : red F (c.reverse ++ [a]) = match ext F (-a) (nf F c.reverse) with
        | some L => L.reverse
        | none => red F c.reverse ++ [a] := by
        unfold red
        rw [nf_app]
        show (push F (nf F c.reverse) a).reverse = _
        unfold push
        cases ext F (-a) (nf F c.reverse) with
        | none => simp
        | some L => rfl
      rw [List.reverse_cons, e, List.append_assoc, List.singleton_append]
      cases h : ext F (-a) (nf F c.reverse) with
      | none =>
        show f (red F c.reverse ++ [a] ++ v) = _
        rw [List.append_assoc, List.singleton_append]
        exact ih (a :: v)
      | some L =>
        show f (L.reverse ++ v) = _
        rw [← ih (a :: v)]
        have h1 := alike_rev t (ext_alike t.sy h)
        have h2 : red F c.reverse = (nf F c.reverse).reverse := rfl
        rw [← h2, List.reverse_cons] at h1
        have h3 := ha _ _ (h1.app (Alike.refl (a :: v)))
        rw [h3, List.append_assoc, List.singleton_append]
        have := hs L.reverse (-a) v
        rw [Int.neg_neg] at this
        exact this.symm
  have := key w.reverse []
  rw [List.reverse_reverse, List.append_nil, List.append_nil] at this
  exact this
theorem leastT_inv (t : Tf F) (f : List Int → α) (ha : ∀ x y, Alike F x y → f x = f y) (hs : ∀ u a v, f (u ++ a :: -a :: v) = f (u ++ v)) (w : List Int) : f (leastT F w) = f w :=
  (ha _ _ (ordT_alike t _)).symm.trans (red_inv t f ha hs w)
/-- the least word after a map that knows swaps and strikes -/
theorem leastT_map (t : Tf F) (f : List Int → List Int) (ha : ∀ x y, Sw F x y → Eqv F (f x) (f y)) (hs : ∀ u a v, Eqv F (f (u ++ a :: -a :: v)) (f (u ++ v))) (w : List Int) : leastT F (f (leastT F w)) = leastT F (f w) :=
  leastT_inv t (fun x => leastT F (f x)) (fun x y h => by
    obtain ⟨n, h⟩ := h
    induction h with
    | refl n w => rfl
    | step _ h2 ih => exact ih.trans (leastT_eqv t (ha _ _ h2))) (fun u a v => leastT_eqv t (hs u a v)) w
theorem sw_filter {P : Int → Bool} {x y : List Int} (h : Sw F x y) : Alike F (x.filter P) (y.filter P) := by
  obtain ⟨a, h1, h2, rfl⟩ := sw_at.mp h
  have e := split2 h1
  have e2 : sa x a = x.take a ++ x.getD (a + 1) 0 :: x.getD a 0 :: x.drop (a + 2) := rfl
  rw [e2]
  conv => lhs; rw [e]
  generalize x.getD a 0 = p at *
  generalize x.getD (a + 1) 0 = q at *
  generalize x.take a = u
  generalize x.drop (a + 2) = v
  rw [List.filter_append, List.filter_append]
  refine (Alike.refl _).app ?_
  rw [List.filter_cons, List.filter_cons, List.filter_cons, List.filter_cons]
  by_cases hp : P p = true
  · by_cases hq : P q = true
    · rw [if_pos hp, if_pos hq, if_pos hq, if_pos hp]
      refine Sw.alike (sw_at.mpr ⟨0, by simp, by simpa using h2, ?_⟩)
      simp [sa]
    · rw [if_pos hp, if_neg hq, if_neg hq, if_pos hp]; exact .refl _
  · by_cases hq : P q = true
    · rw [if_neg hp, if_pos hq, if_pos hq, if_neg hp]; exact .refl _
    · rw [if_neg hp, if_neg hq, if_neg hq, if_neg hp]; exact .refl _
/-- letters kept -/
theorem leastT_filter (t : Tf F) {P : Int → Bool} (hP : ∀ a, P (-a) = P a) (w : List Int) : leastT F ((leastT F w).filter P) = leastT F (w.filter P) :=
  leastT_map t (fun x => x.filter P) (fun x y h => eqv_alike t (sw_filter h)) (fun u a v => by
    rw [List.filter_append, List.filter_append, List.filter_cons, List.filter_cons, hP]
    by_cases h : P a = true
    · rw [if_pos h, if_pos h]; exact eqv_strike t _ a _
    · rw [if_neg h, if_neg h]; exact .refl _) w
theorem leastT_appl (t : Tf F) (u w : List Int) : leastT F (u ++ leastT F w) = leastT F (u ++ w) :=
  leastT_map t (fun x => u ++ x) (fun x y h => eqv_alike t ((Alike.refl u).app h.alike)) (fun p a v => by
    rw [← List.append_assoc, ← List.append_assoc]
    exact eqv_strike t _ a _) w
theorem leastT_appr (t : Tf F) (u w : List Int) : leastT F (leastT F w ++ u) = leastT F (w ++ u) := leastT_eqv t ((eqv_app_r t (leastT_self t w) u).symm t)
theorem leastT_app (t : Tf F) (u w : List Int) : leastT F (leastT F u ++ leastT F w) = leastT F (u ++ w) := by rw [leastT_appr t, leastT_appl t]
theorem leastT_idem (t : Tf F) (w : List Int) : leastT F (leastT F w) = leastT F w := leastT_eqv t ((leastT_self t w).symm t)
theorem leastT_nil : leastT F [] = [] := rfl
theorem leastT_strike (t : Tf F) (u : List Int) (a : Int) (v : List Int) : leastT F (u ++ a :: -a :: v) = leastT F (u ++ v) := leastT_eqv t (eqv_strike t u a v)
/-! sums of signs -/
def ssum (w : List Int) (c : Int) : Int := (w.count c : Int) - (w.count (-c) : Int)
theorem ssum_app (u v : List Int) (c : Int) : ssum (u ++ v) c = ssum u c + ssum v c := by
  unfold ssum
  rw [List.count_append, List.count_append]
  omega
theorem ssum_pair (a c : Int) : ssum [a, -a] c = 0 := by
  unfold ssum
  simp only [List.count_cons, List.count_nil, beq_iff_eq]
  have e1 : (-a = c) = (a = -c) := by apply propext; omega
  have e2 : (-a = -c) = (a = c) := by apply propext; omega
  simp only [e1, e2]
  omega
theorem ssum_strike (u : List Int) (a : Int) (v : List Int) (c : Int) : ssum (u ++ a :: -a :: v) c = ssum (u ++ v) c := by
  have : u ++ a :: -a :: v = u ++ ([a, -a] ++ v) := rfl
  rw [this, ssum_app, ssum_app, ssum_app, ssum_pair]
  omega
theorem ssum_alike {x y : List Int} (h : Alike F x y) (c : Int) : ssum x c = ssum y c := by
  unfold ssum
  rw [h.perm.count_eq, h.perm.count_eq]
theorem ssum_leastT (t : Tf F) (w : List Int) (c : Int) : ssum (leastT F w) c = ssum w c := leastT_inv t (fun x => ssum x c) (fun x y h => ssum_alike h c) (fun u a v => ssum_strike u a v c) w
def bkw (w : List Int) : List Int := (w.map fun a => -a).reverse
theorem ssum_bkw (w : List Int) (c : Int) : ssum (bkw w) c = -ssum w c := by
  have key : ∀ d : Int, (bkw w).count d = w.count (-d) := fun d => by
    unfold bkw
    rw [List.count_reverse]
    induction w with
    | nil => rfl
    | cons x w ih =>
      rw [List.map_cons, List.count_cons, List.count_cons, ih]
      have : (-x == d) = (x == -d) := by
        rw [Bool.eq_iff_iff]
        simp only [beq_iff_eq]
        omega
      rw [this]
  unfold ssum
  rw [key, key, Int.neg_neg]
  omega
/-! words of one letter -/
def rep (c s : Int) : List Int := if s > 0 then List.replicate s.natAbs c else List.replicate s.natAbs (-c)
theorem ext_rep {a b : Int} (t : Tf F) (hab : F a b = false) (h : b ≠ a) : ∀ n, ext F a (List.replicate n b) = none
  | 0 => rfl
  | n + 1 => by
    rw [List.replicate_succ]
    simp [ext, h, h.symm, hab]
theorem push_rep (t : Tf F) {c s : Int} (hc : c ≠ 0) : push F (rep c s) c = rep c (s + 1) ∧ push F (rep c s) (-c) = rep c (s - 1) := by
  have hne : c ≠ -c := by omega
  constructor
  · by_cases h : s ≥ 0
    · have e : rep c s = List.replicate s.natAbs c := by
        unfold rep
        by_cases h0 : s > 0
        · rw [if_pos h0]
        · have : s = 0 := by omega
          subst this
          rfl
      rw [e]
      unfold push rep
      rw [ext_rep t (t.opp2 c) hne, if_pos (by omega), show (s + 1).natAbs = s.natAbs + 1 by omega, List.replicate_succ]
    · unfold rep push
      rw [if_neg (by omega), if_neg (by omega), show s.natAbs = (s + 1).natAbs + 1 by omega, List.replicate_succ]
      simp [ext]
  · by_cases h : s > 0
    · unfold rep push
      rw [if_pos h, show s.natAbs = (s - 1).natAbs + 1 by omega, List.replicate_succ]
      simp only [Int.neg_neg, ext, if_true]
      by_cases h1 : s - 1 > 0
      · rw [if_pos h1]
      · have : s = 1 := by omega
        subst this
        rfl
    · unfold rep push
      rw [if_neg h, Int.neg_neg, ext_rep t (t.opp c) (fun z => hne z.symm), if_neg (by omega), show (s - 1).natAbs = s.natAbs + 1 by omega, List.replicate_succ]
theorem fold_rep (t : Tf F) {c : Int} (hc : c ≠ 0) : ∀ {w : List Int} {s : Int}, (∀ a ∈ w, a = c ∨ a = -c) → w.foldl (push F) (rep c s) = rep c (s + ssum w c)
  | [], s, _ => by simp [ssum]
  | a :: w, s, h => by
    have ih := fun s => fold_rep t hc (w := w) (s := s) fun z hz => h z (List.mem_cons_of_mem _ hz)
    have e : ssum (a :: w) c = ssum [a] c + ssum w c := ssum_app [a] w c
    rw [List.foldl_cons, e]
    have hne : ¬ c = -c := by omega
    rcases h a List.mem_cons_self with rfl | rfl
    · rw [(push_rep t hc).1, ih]
      have : ssum [a] a = 1 := by simp [ssum, hne]
      rw [this, Int.add_assoc]
    · rw [(push_rep t hc).2, ih]
      have : ssum [-c] c = -1 := by
        have : ¬ -c = c := by omega
        simp [ssum, this]
      rw [this]
      congr 1
      omega
theorem leastT_rep (t : Tf F) {c : Int} (hc : c ≠ 0) {w : List Int} (h : ∀ a ∈ w, a = c ∨ a = -c) : leastT F w = rep c (ssum w c) := by
  have e1 : nf F w = rep c (ssum w c) := by
    have := fold_rep t hc (w := w) (s := 0) h
    rw [Int.zero_add] at this
    exact this
  obtain ⟨n, b, e2⟩ : ∃ n b, rep c (ssum w c) = List.replicate n b := by
    unfold rep
    split <;> exact ⟨_, _, rfl⟩
  unfold leastT red
  rw [e1, e2, List.reverse_replicate]
  exact (List.perm_replicate.mp (ordT_alike t (List.replicate n b)).perm.symm)
end
end RW
namespace RW
open TR
/-! words without signs -/
section
variable {F G : Int → Int → Bool}
abbrev up (w : List Int) : List Int := w.map fun a => a + 1
theorem up_getD {w : List Int} {i : Nat} (h : i < w.length) : (up w).getD i 0 = w.getD i 0 + 1 := by simp [up, h]
theorem up_sa {w : List Int} {i : Nat} (h : i + 1 < w.length) : sa (up w) i = up (sa w i) := by
  unfold sa
  rw [up_getD (w := w) (i := i) (by omega), up_getD h]
  simp [up]
theorem getD_mem {w : List Int} {i : Nat} (h : i < w.length) : w.getD i 0 ∈ w := by
  rw [List.getD_eq_getElem?_getD, List.getElem?_eq_getElem h]
  exact List.getElem_mem h
theorem up_sw (hFG : ∀ a b, 0 ≤ a → 0 ≤ b → G (a + 1) (b + 1) = F a b) {x z : List Int} (hx : ∀ a ∈ x, 0 ≤ a) : Sw G (up x) z ↔ ∃ y, z = up y ∧ Sw F x y := by
  have key : ∀ i, i + 1 < x.length → G ((up x).getD i 0) ((up x).getD (i + 1) 0) = F (x.getD i 0) (x.getD (i + 1) 0) := fun i hi => by
    rw [up_getD (by omega), up_getD hi, hFG _ _ (hx _ (getD_mem (by omega))) (hx _ (getD_mem hi))]
  constructor
  · intro h
    obtain ⟨i, h1, h2, rfl⟩ := sw_at.mp h
    rw [List.length_map] at h1
    rw [key i h1] at h2
    exact ⟨sa x i, up_sa h1, sw_at.mpr ⟨i, h1, h2, rfl⟩⟩
  · rintro ⟨y, rfl, h⟩
    obtain ⟨i, h1, h2, rfl⟩ := sw_at.mp h
    exact sw_at.mpr ⟨i, by rw [List.length_map]; exact h1, by rw [key i h1]; exact h2, (up_sa h1).symm⟩
theorem up_alike (hFG : ∀ a b, 0 ≤ a → 0 ≤ b → G (a + 1) (b + 1) = F a b) {x : List Int} (hx : ∀ a ∈ x, 0 ≤ a) {y : List Int} (h : Alike F x y) : Alike G (up x) (up y) := by
  obtain ⟨n, h⟩ := h
  induction h with
  | refl n w => exact .refl _
  | step h1 h2 ih =>
    have hp := h1.perm
    exact (ih hx).trans (Sw.alike ((up_sw hFG fun a ha => hx a (hp.mem_iff.mpr ha)).mpr ⟨_, rfl, h2⟩))
theorem up_alike_inv (hFG : ∀ a b, 0 ≤ a → 0 ≤ b → G (a + 1) (b + 1) = F a b) {x z : List Int} (hx : ∀ a ∈ x, 0 ≤ a) (h : Alike G (up x) z) : ∃ y, z = up y ∧ Alike F x y := by
  obtain ⟨n, h⟩ := h
  generalize e : up x = u at h
  induction h with
  | refl n w => exact ⟨x, e.symm, .refl _⟩
  | step h1 h2 ih =>
    obtain ⟨y, rfl, hy⟩ := ih e
    obtain ⟨y2, rfl, h3⟩ := (up_sw hFG fun a ha => hx a (hy.perm.mem_iff.mpr ha)).mp h2
    exact ⟨y2, rfl, hy.trans h3.alike⟩
theorem up_irr (hFG : ∀ a b, 0 ≤ a → 0 ≤ b → G (a + 1) (b + 1) = F a b) {x : List Int} (hx : ∀ a ∈ x, 0 ≤ a) : Irr G (up x) := fun u a v h => by
  have h1 : a ∈ up x := h.perm.mem_iff.mpr (by simp)
  have h2 : -a ∈ up x := h.perm.mem_iff.mpr (by simp)
  obtain ⟨b, hb, e1⟩ := List.mem_map.mp h1
  obtain ⟨c, hc, e2⟩ := List.mem_map.mp h2
  have := hx b hb
  have := hx c hc
  omega
theorem lt_mono {f : Int → Int} (hf : ∀ a b, f a < f b → a < b) (hj : ∀ a b, f a = f b → a = b) : ∀ {x y : List Int}, x.map f < y.map f → x < y
  | x, [], h => absurd h (by simp)
  | [], _ :: _, _ => by simp
  | a :: x, b :: y, h => by
    rw [List.map_cons, List.map_cons, List.cons_lt_cons_iff] at h
    rw [List.cons_lt_cons_iff]
    rcases h with h | ⟨h1, h2⟩
    · exact .inl (hf _ _ h)
    · exact .inr ⟨hj _ _ h1, lt_mono hf hj h2⟩
theorem ordl_up {x : List Int} (hx : ∀ a ∈ x, 0 ≤ a) : ordl (up x) = x.map fun a => 2 * a + 1 := by
  unfold ordl up
  rw [List.map_map]
  apply List.map_congr_left
  intro a ha
  have := hx a ha
  simp only [Function.comp]
  rw [if_pos (by omega)]
  omega
theorem up_low (t : Tf G) (hs : ∀ a b, F a b = F b a) (hi : ∀ a, F a a = false) (hFG : ∀ a b, 0 ≤ a → 0 ≤ b → G (a + 1) (b + 1) = F a b) {x : List Int} (hx : ∀ a ∈ x, 0 ≤ a) : leastT G (up x) = up (low F x) := by
  rw [leastT_irr t (up_irr hFG hx)]
  obtain ⟨y, e, hy⟩ := up_alike_inv hFG hx (ordT_alike t (up x))
  have hl := low_alike hs x
  by_cases h : up (low F x) = ordT G (up x)
  · exact h.symm
  · have h1 := ordT_least t (up_alike hFG hx hl) (fun a ha => by
      obtain ⟨b, hb, rfl⟩ := List.mem_map.mp ha
      have := hx b hb
      omega) h
    rw [e, ordl_up fun a ha => hx a (hy.perm.mem_iff.mpr ha), ordl_up fun a ha => hx a (hl.perm.mem_iff.mpr ha)] at h1
    have h2 := lt_mono (fun a b h => by omega) (fun a b h => by omega) h1
    rcases leW_lt (low_le hs hi rfl hy) with z | z
    · rw [z] at h2; exact absurd h2 (List.lt_irrefl _)
    · exact absurd (List.lt_trans h2 z) (List.lt_irrefl _)
theorem up_inj {x y : List Int} : up x = up y ↔ x = y := by
  constructor
  · intro h
    induction x generalizing y with
    | nil => cases y with
      | nil => rfl
      | cons b y => cases h
    | cons a x ih => cases y with
      | nil => cases h
      | cons b y =>
        simp only [up, List.map_cons, List.cons.injEq] at h
        rw [show a = b by omega, ih h.2]
  · rintro rfl; rfl
end
end RW
namespace RW
open TR
section
variable {F : Int → Int → Bool}
theorem bkw_cons (a : Int) (w : List Int) : bkw (a :: w) = bkw w ++ [-a] := by simp [bkw]
theorem bkw_bkw (w : List Int) : bkw (bkw w) = w := by
  unfold bkw
  rw [List.map_reverse, List.reverse_reverse, List.map_map]
  conv => rhs; rw [← List.map_id w]
  apply List.map_congr_left
  intro a _
  simp
theorem bkw_len (w : List Int) : (bkw w).length = w.length := by simp [bkw]
theorem leastT_cancel (t : Tf F) : ∀ (w u v : List Int), leastT F (u ++ w ++ bkw w ++ v) = leastT F (u ++ v)
  | [], u, v => by simp [bkw]
  | a :: w, u, v => by
    have ih := leastT_cancel t w (u ++ [a]) (-a :: v)
    have h := leastT_strike t u a v
    rw [bkw_cons]
    simp only [List.append_assoc, List.cons_append, List.nil_append, List.singleton_append] at ih ⊢
    rw [ih, h]
theorem leastT_cancel1 (t : Tf F) (w : List Int) : leastT F (w ++ bkw w) = [] := by
  have := leastT_cancel t w [] []
  rw [List.nil_append, List.append_nil, List.append_nil, leastT_nil] at this
  exact this
theorem leastT_cancel2 (t : Tf F) (w : List Int) : leastT F (bkw w ++ w) = [] := by
  have := leastT_cancel1 t (bkw w)
  rw [bkw_bkw] at this
  exact this
theorem leastT_75 (t : Tf F) (w : List Int) : leastT F ((List.replicate 7 w).flatten ++ (List.replicate 2 (bkw w)).flatten) = leastT F (List.replicate 5 w).flatten := by
  have h1 := leastT_cancel t w ((List.replicate 5 w).flatten ++ w) (bkw w)
  have h2 := leastT_cancel t w (List.replicate 5 w).flatten []
  have e : (List.replicate 7 w).flatten ++ (List.replicate 2 (bkw w)).flatten = (List.replicate 5 w).flatten ++ w ++ w ++ bkw w ++ bkw w := by simp [List.replicate]
  rw [e, h1]
  rw [List.append_nil, List.append_nil] at h2
  exact h2
end
end RW

namespace DLk41
open PySem L2 DL RW TR
section
variable {k : Nat} {m : Int} {qs : List (Int × Int)}
theorem Wt.app {u v : List Int} (hu : Wt m u) (hv : Wt m v) (h : u.length + v.length ≤ 24) : Wt m (u ++ v) := ⟨fun x hx => by
  rcases List.mem_append.mp hx with z | z
  · exact hu.rg x z
  · exact hv.rg x z, by rw [List.length_append]; exact h⟩
theorem Wt.least {F : Int → Int → Bool} (t : Tf F) {w : List Int} (h : Wt m w) : Wt m (leastT F w) := ⟨fun x hx => h.rg x (mem_leastT t hx), Nat.le_trans (leastT_len t w).2 h.len⟩
theorem Wt.sub {u w : List Int} (h : Wt m w) (hs : ∀ x ∈ u, x ∈ w) (hl : u.length ≤ w.length) : Wt m u := ⟨fun x hx => h.rg x (hs x hx), Nat.le_trans hl h.len⟩
theorem Wt.bkw {w : List Int} (h : Wt m w) : Wt m (bkw w) := ⟨fun x hx => by
  unfold RW.bkw at hx
  rw [List.mem_reverse] at hx
  obtain ⟨a, ha, rfl⟩ := List.mem_map.mp hx
  rw [Int.natAbs_neg]
  exact h.rg a ha, by unfold RW.bkw; simpa using h.len⟩
theorem Wt.ne {w : List Int} (h : Wt m w) : ∀ a ∈ w, a ≠ 0 := fun a ha => by have := h.rg a ha; omega
theorem tp_eqv {u v : List Int} : (tp u).eqv (tp v) = decide (u = v) := by simp [tp]
theorem r_back_in (hk : 3 ≤ k) (w : List Int) (hw : w.length ≤ 1000) (st : Stor) : run defs k 16 [.d (tp w)] st = .ok (.d (tp (bkw w))) st := by
  rw [u_back_in hk]
  simp [b_back_in, tp, show w.length ≤ 16777216 by omega]
  generalize hz : lcGo _ _ _ = z
  have := lcZ_map hz .int w.reverse (by simp) (fun a => .int (-a)) (fun a _ => by simp [lcStep_def])
  subst this
  simp [dTuple, W.asL, bkw]
theorem mul_tp {w : List Int} {n : Int} (h1 : n.natAbs ≤ 100) (h2 : w.length ≤ 1000) (st : Stor) : dMul st (.d (tp w)) (.d (.int n)) = some (.d (tp (List.replicate n.toNat w).flatten)) := by
  unfold tp
  rw [dMul_tk (by omega) (by rw [List.length_map]; exact h2)]
  congr 3
  rw [List.map_flatten, List.map_replicate]
/-- a power -/
def powr (w : List Int) (n : Int) : List Int := (List.replicate n.natAbs (if n ≥ 0 then w else bkw w)).flatten
theorem powr_len {w : List Int} {n : Int} : (powr w n).length = n.natAbs * w.length := by
  unfold powr bkw
  rw [List.length_flatten, List.map_replicate, List.sum_replicate_nat]
  split <;> simp
theorem add_tp {u v : List Int} (h : u.length + v.length ≤ 16777216) (st : Stor) : dAdd st (.d (tp u)) (.d (tp v)) = some (.d (tp (u ++ v))) := by simp [tp, h]
end
end DLk41

/-! round words: letters struck at both ends -/
namespace RW
open TR
section
variable {F : Int → Int → Bool}
theorem red_irr' (t : Tf F) {w : List Int} (h : Red F w) : Irr F w := fun u a v e => by
  have h2 := red_alike t e h
  have h3 := (red_suf h2).2
  simp [ext] at h3
theorem alike_ext (t : Tf F) {d : Int} {w Z : List Int} (h : Alike F w (d :: Z)) : ∃ v, ext F d w = some v ∧ Alike F v Z := by
  obtain ⟨v, h1, h2⟩ := ext_congr t.sy t.ir (h.symm t.sy) (c := d) (v := Z) (by simp [ext])
  exact ⟨v, h1, h2.symm t.sy⟩
theorem extA {d c : Int} (h : d ≠ c) : ∀ {R v : List Int}, ext F d (R ++ [c]) = some v → ∃ R', ext F d R = some R' ∧ v = R' ++ [c]
  | [], v, e => by simp [ext, h] at e
  | x :: R, v, e => by
    simp only [List.cons_append, ext] at e ⊢
    by_cases h1 : d = x
    · rw [if_pos h1] at e ⊢
      cases e
      exact ⟨R, rfl, rfl⟩
    · rw [if_neg h1] at e ⊢
      by_cases h2 : F d x = true
      · rw [if_pos h2] at e ⊢
        obtain ⟨v', e1, rfl⟩ := Option.map_eq_some_iff.mp e
        obtain ⟨R', e2, rfl⟩ := extA h e1
        rw [e2]
        exact ⟨x :: R', rfl, rfl⟩
      · rw [if_neg h2] at e
        cases e
theorem alike_snoc_inv (t : Tf F) {x y : List Int} {c : Int} (h : Alike F (x ++ [c]) (y ++ [c])) : Alike F x y := by
  have h1 := alike_rev t h
  rw [List.reverse_append, List.reverse_append, List.reverse_singleton, List.singleton_append, List.singleton_append] at h1
  have h2 := alike_rev t (Alike.uncons t.sy t.ir (c := c) h1)
  rwa [List.reverse_reverse, List.reverse_reverse] at h2
/-- an end other than the first letter -/
theorem end_cons (t : Tf F) {c d : Int} (h : d ≠ c) {Y Z : List Int} (e : Alike F (c :: Y) (Z ++ [d])) : ∃ Y', Alike F Y (Y' ++ [d]) ∧ Alike F Z (c :: Y') := by
  have h1 := alike_rev t e
  rw [List.reverse_append, List.reverse_cons, List.reverse_singleton, List.singleton_append] at h1
  obtain ⟨v, h2, h3⟩ := alike_ext t h1
  obtain ⟨R, h4, rfl⟩ := extA h h2
  have h5 := alike_rev t (ext_alike t.sy h4)
  have h6 := alike_rev t h3
  rw [List.reverse_reverse, List.reverse_cons] at h5
  rw [List.reverse_reverse, List.reverse_append, List.reverse_singleton, List.singleton_append] at h6
  exact ⟨R.reverse, h5, h6.symm t.sy⟩
theorem front_snoc (t : Tf F) {b e : Int} (h : b ≠ e) {M Z : List Int} (a : Alike F (M ++ [e]) (b :: Z)) : ∃ M', Alike F M (b :: M') ∧ Alike F Z (M' ++ [e]) := by
  obtain ⟨v, h2, h3⟩ := alike_ext t a
  obtain ⟨R, h4, rfl⟩ := extA h h2
  exact ⟨R, ext_alike t.sy h4, h3.symm t.sy⟩
theorem front_cons (t : Tf F) {c d : Int} (h : d ≠ c) {Y Z : List Int} (e : Alike F (c :: Y) (d :: Z)) : F d c = true ∧ ∃ Y', Alike F Y (d :: Y') ∧ Alike F Z (c :: Y') := by
  obtain ⟨v, h2, h3⟩ := alike_ext t e
  simp only [ext] at h2
  rw [if_neg h] at h2
  by_cases hf : F d c = true
  · rw [if_pos hf] at h2
    obtain ⟨v', e1, rfl⟩ := Option.map_eq_some_iff.mp h2
    exact ⟨hf, v', ext_alike t.sy e1, h3.symm t.sy⟩
  · rw [if_neg hf] at h2
    cases h2
theorem sw_front {a b : Int} (h : F a b = true) (w : List Int) : Alike F (a :: b :: w) (b :: a :: w) := Sw.alike (sw_at.mpr ⟨0, by simp, by simpa using h, by simp [sa]⟩)
theorem sw_end (t : Tf F) {a b : Int} (h : F a b = true) (w : List Int) : Alike F (w ++ [a, b]) (w ++ [b, a]) := (Alike.refl w).app (sw_front h [])
/-- a word without its two ends -/
def Strip (F : Int → Int → Bool) (L M : List Int) : Prop := ∃ a, Alike F L (a :: (M ++ [-a]))
theorem Strip.len {L M : List Int} (h : Strip F L M) : L.length = M.length + 2 := by
  obtain ⟨a, h⟩ := h
  have := h.len
  simpa using this
theorem Strip.irr {L M : List Int} (h : Strip F L M) (hi : Irr F L) : Irr F M := fun u b v e => by
  obtain ⟨a, h⟩ := h
  refine hi (a :: u) b (v ++ [-a]) (h.trans ?_)
  have := (e.app (Alike.refl [-a])).cons a
  simpa using this
theorem Strip.left {L L' M : List Int} (t : Tf F) (h : Strip F L M) (e : Alike F L L') : Strip F L' M := let ⟨a, h⟩ := h; ⟨a, (e.symm t.sy).trans h⟩
theorem Strip.right {L M M' : List Int} (h : Strip F L M) (e : Alike F M M') : Strip F L M' := let ⟨a, h⟩ := h; ⟨a, h.trans ((e.app (Alike.refl _)).cons a)⟩
theorem Strip.rev {L M : List Int} (t : Tf F) (h : Strip F L M) : Strip F L.reverse M.reverse := by
  obtain ⟨a, h⟩ := h
  refine ⟨-a, ?_⟩
  have := alike_rev t h
  simpa using this
theorem strip_both (t : Tf F) {L M1 M2 : List Int} (h1 : Strip F L M1) (h2 : Strip F L M2) : Alike F M1 M2 ∨ ∃ N, Strip F M1 N ∧ Strip F M2 N := by
  obtain ⟨a, h1⟩ := h1
  obtain ⟨b, h2⟩ := h2
  have h := (h1.symm t.sy).trans h2
  by_cases hab : a = b
  · subst hab
    exact .inl (alike_snoc_inv t (Alike.uncons t.sy t.ir h))
  · obtain ⟨hf, Y, hY, hZ⟩ := front_cons t (fun z => hab z.symm) h
    have hba : b ≠ -a := fun z => by rw [z, t.opp2] at hf; cases hf
    obtain ⟨M', hM, hY2⟩ := front_snoc t hba hY
    -- hZ : M2 ++ [-b] ~ a :: Y
    obtain ⟨Q, hQ, hQ2⟩ := end_cons t (c := a) (d := -b) (fun z => hba (by omega)) (hZ.symm t.sy)
    -- Y ~ Q ++ [-b], M2 ~ a :: Q ; Y ~ M' ++ [-a]
    have hq := (hY2.symm t.sy).trans hQ
    -- M' ++ [-a] ~ Q ++ [-b]
    have hr := alike_rev t hq
    rw [List.reverse_append, List.reverse_append, List.reverse_singleton, List.reverse_singleton, List.singleton_append, List.singleton_append] at hr
    obtain ⟨_, N, hN1, hN2⟩ := front_cons t (c := -a) (d := -b) (fun z => hab (by omega)) hr
    have e1 := alike_rev t hN1
    have e2 := alike_rev t hN2
    rw [List.reverse_reverse, List.reverse_cons] at e1 e2
    refine .inr ⟨N.reverse, ⟨b, hM.trans (e1.cons b)⟩, ⟨a, hQ2.trans (e2.cons a)⟩⟩
/-- the length of what is left -/
inductive RL (F : Int → Int → Bool) : List Int → Nat → Prop
  | stop {L : List Int} : (∀ M, ¬ Strip F L M) → RL F L L.length
  | step {L M : List Int} {n : Nat} : Strip F L M → RL F M n → RL F L n
theorem RL.alike (t : Tf F) {L L' : List Int} {n : Nat} (h : RL F L n) (e : Alike F L L') : RL F L' n := by
  cases h with
  | stop h =>
    rw [e.len]
    exact .stop fun M z => h M (z.left t (e.symm t.sy))
  | step h1 h2 => exact .step (h1.left t e) h2
theorem RL.ex : ∀ (k : Nat) (L : List Int), L.length ≤ k → ∃ n, RL F L n
  | k, L, hk => by
    by_cases h : ∃ M, Strip F L M
    · obtain ⟨M, h⟩ := h
      have := h.len
      match k, hk with
      | 0, hk => omega
      | k + 1, hk =>
        obtain ⟨n, hn⟩ := RL.ex k M (by omega)
        exact ⟨n, .step h hn⟩
    · exact ⟨_, .stop fun M z => h ⟨M, z⟩⟩
theorem RL.uniq (t : Tf F) : ∀ (k : Nat) {L : List Int} {n n' : Nat}, L.length ≤ k → RL F L n → RL F L n' → n = n'
  | k, L, n, n', hk, h, h' => by
    cases h with
    | stop h => cases h' with
      | stop _ => rfl
      | step h1 _ => exact absurd h1 (h _)
    | step h1 h2 => cases h' with
      | stop h => exact absurd h1 (h _)
      | step g1 g2 =>
        have l1 := h1.len
        have l2 := g1.len
        match k, hk with
        | 0, hk => omega
        | k + 1, hk =>
          rcases strip_both t h1 g1 with e | ⟨N, s1, s2⟩
          · exact RL.uniq t k (by omega) (h2.alike t e) g2
          · obtain ⟨q, hq⟩ := RL.ex (F := F) N.length N (Nat.le_refl _)
            rw [RL.uniq t k (by omega) h2 (.step s1 hq), RL.uniq t k (by omega) g2 (.step s2 hq)]
theorem RL.strip (t : Tf F) {L M : List Int} {n : Nat} (h : RL F L n) (s : Strip F L M) : RL F M n := by
  obtain ⟨q, hq⟩ := RL.ex (F := F) M.length M (Nat.le_refl _)
  rw [RL.uniq t L.length (Nat.le_refl _) h (.step s hq)]
  exact hq
theorem irr_mid {u w v : List Int} (h : Irr F (u ++ (w ++ v))) : Irr F w := fun p b q e => by
  refine h (u ++ p) b (q ++ v) ?_
  have := (Alike.refl u).app (e.app (Alike.refl v))
  simpa using this
theorem irr_tail {a : Int} {w : List Int} (h : Irr F (a :: w)) : Irr F w := irr_mid (u := [a]) (v := []) (by simpa using h)
theorem irr_init {a : Int} {w : List Int} (h : Irr F (w ++ [a])) : Irr F w := irr_mid (u := []) (v := [a]) (by simpa using h)
theorem eqv_irr (t : Tf F) {x y : List Int} (h : Eqv F x y) (hx : Irr F x) (hy : Irr F y) : Alike F x y := by
  have := leastT_eqv t h
  rw [leastT_irr t hx, leastT_irr t hy] at this
  exact ordT_inj t this
theorem strip_shift (t : Tf F) {c : Int} {X M : List Int} (h2 : Irr F (X ++ [c])) (s : Strip F (c :: X) M) : ∃ Q, Alike F M (c :: Q) ∧ Strip F (X ++ [c]) (Q ++ [c]) := by
  obtain ⟨b, h⟩ := s
  by_cases hb : b = c
  · subst hb
    have h3 := Alike.uncons t.sy t.ir h
    refine absurd ?_ (h2 M (-b) [])
    have := h3.app (Alike.refl [b])
    rw [Int.neg_neg]
    simpa using this
  · obtain ⟨hf, X', hX, hM⟩ := front_cons t hb h
    have hcb : c ≠ -b := fun z => by rw [z, t.opp] at hf; cases hf
    obtain ⟨Q, hQ, hX'⟩ := front_snoc t hcb hM
    refine ⟨Q, hQ, b, ?_⟩
    have e1 : Alike F (X ++ [c]) (b :: (Q ++ [-b]) ++ [c]) := (hX.trans (hX'.cons b)).app (Alike.refl [c])
    have e2 : Alike F (b :: (Q ++ [-b, c])) (b :: (Q ++ [c, -b])) := (sw_end t (by rw [t.ng]; exact hf) Q).cons b
    refine e1.trans ?_
    simpa using e2
theorem RL.shift (t : Tf F) {c : Int} : ∀ (k : Nat) {X : List Int} {n : Nat}, X.length ≤ k → Irr F (c :: X) → Irr F (X ++ [c]) → RL F (c :: X) n → RL F (X ++ [c]) n
  | k, X, n, hk, h1, h2, h => by
    generalize hL : c :: X = L at h
    cases h with
    | stop h =>
      subst hL
      have : (c :: X).length = (X ++ [c]).length := by simp
      rw [this]
      refine .stop fun M s => ?_
      have s1 := s.rev t
      rw [List.reverse_append, List.reverse_singleton, List.singleton_append] at s1
      have h3 := irr_rev t h1
      rw [List.reverse_cons] at h3
      obtain ⟨Q, _, s2⟩ := strip_shift t h3 s1
      have s3 := s2.rev t
      rw [List.reverse_append, List.reverse_singleton, List.singleton_append, List.reverse_reverse] at s3
      exact h _ s3
    | step s hr =>
      subst hL
      obtain ⟨Q, e, s2⟩ := strip_shift t h2 s
      have l1 := s.len
      have l2 := e.len
      simp only [List.length_cons] at l1 l2
      match k, hk with
      | 0, hk => omega
      | k + 1, hk =>
        exact .step s2 (RL.shift t k (by omega) (irr_alike t (s.irr h1) e) (s2.irr h2) (hr.alike t e))
theorem RL.shift' (t : Tf F) {c : Int} {X : List Int} {n : Nat} (h1 : Irr F (c :: X)) (h2 : Irr F (X ++ [c])) (h : RL F (X ++ [c]) n) : RL F (c :: X) n := by
  obtain ⟨m, hm⟩ := RL.ex (F := F) _ (c :: X) (Nat.le_refl _)
  have := RL.uniq t _ (Nat.le_refl _) (RL.shift t _ (Nat.le_refl _) h1 h2 hm) h
  rw [← this]
  exact hm
theorem extB {a : Int} : ∀ {R v : List Int}, ext F a (R ++ [a]) = some v → (∃ R', ext F a R = some R') ∨ ∀ x ∈ R, F a x = true
  | [], v, e => .inr (by simp)
  | x :: R, v, e => by
    simp only [List.cons_append, ext] at e ⊢
    by_cases h1 : a = x
    · exact .inl ⟨R, by rw [if_pos h1]⟩
    · rw [if_neg h1] at e
      by_cases h2 : F a x = true
      · rw [if_pos h2] at e
        obtain ⟨v', e1, rfl⟩ := Option.map_eq_some_iff.mp e
        rcases extB e1 with ⟨R', h⟩ | h
        · exact .inl ⟨x :: R', by rw [if_neg h1, if_pos h2, h]; rfl⟩
        · exact .inr fun y hy => by
            rcases List.mem_cons.mp hy with rfl | hy
            · exact h2
            · exact h y hy
      · rw [if_neg h2] at e
        cases e
theorem through {a : Int} : ∀ {L v : List Int}, (∀ x ∈ L, F a x = true) → Alike F (a :: (L ++ v)) (L ++ a :: v)
  | [], v, _ => .refl _
  | x :: L, v, h => (sw_front (h x List.mem_cons_self) (L ++ v)).trans ((through fun y hy => h y (List.mem_cons_of_mem _ hy)).cons x)
theorem RL.conj (t : Tf F) {a : Int} {L K : List Int} {n : Nat} (hL : Irr F L) (hK : Irr F K) (he : Eqv F K (a :: (L ++ [-a]))) (h : RL F L n) : RL F K n := by
  by_cases hI : Irr F (a :: (L ++ [-a]))
  · exact .step ⟨a, eqv_irr t he hK hI⟩ h
  · cases e : ext F (-a) L with
    | some L' =>
      have e1 := ext_alike t.sy e
      have e2 : Eqv F K (L' ++ [-a]) := by
        have h1 : Eqv F (a :: (L ++ [-a])) (a :: -a :: (L' ++ [-a])) := eqv_alike t ((e1.app (Alike.refl [-a])).cons a)
        have h2 := eqv_strike t [] a (L' ++ [-a])
        exact he.trans (h1.trans h2)
      have hL' := irr_tail (irr_alike t hL e1)
      by_cases hJ : Irr F (L' ++ [-a])
      · exact (RL.shift t _ (Nat.le_refl _) (irr_alike t hL e1) hJ (h.alike t e1)).alike t ((eqv_irr t e2 hK hJ).symm t.sy)
      · cases e3 : ext F a L'.reverse with
        | none =>
          refine absurd ?_ hJ
          have : Red F (L' ++ [-a]).reverse := by
            rw [List.reverse_append, List.reverse_singleton, List.singleton_append]
            exact ⟨irr_red t (irr_rev t hL'), by rw [Int.neg_neg]; exact e3⟩
          have h3 := irr_rev t (red_irr' t this)
          rw [List.reverse_reverse] at h3
          exact h3
        | some v =>
          have e4 := alike_rev t (ext_alike t.sy e3)
          rw [List.reverse_reverse, List.reverse_cons] at e4
          have s : Strip F L v.reverse := ⟨-a, by rw [Int.neg_neg]; exact e1.trans (e4.cons (-a))⟩
          have e5 : Eqv F K v.reverse := by
            have h1 := eqv_alike t (e4.app (Alike.refl [-a]))
            have h2 := eqv_strike t v.reverse a []
            rw [List.append_nil] at h2
            refine e2.trans (h1.trans ?_)
            simpa using h2
          exact (h.strip t s).alike t ((eqv_irr t e5 hK (s.irr hL)).symm t.sy)
    | none =>
      have hR : Irr F (a :: L) := red_irr' t ⟨irr_red t hL, e⟩
      cases e3 : ext F a (a :: L).reverse with
      | none =>
        refine absurd ?_ hI
        have : Red F (a :: (L ++ [-a])).reverse := by
          have e6 : (a :: (L ++ [-a])).reverse = -a :: (a :: L).reverse := by simp
          rw [e6]
          exact ⟨irr_red t (irr_rev t hR), by rw [Int.neg_neg]; exact e3⟩
        have h3 := irr_rev t (red_irr' t this)
        rw [List.reverse_reverse] at h3
        exact h3
      | some v =>
        rw [List.reverse_cons] at e3
        rcases extB e3 with ⟨R, h1⟩ | h1
        · have e4 := alike_rev t (ext_alike t.sy h1)
          rw [List.reverse_reverse, List.reverse_cons] at e4
          have e5 : Eqv F K (a :: R.reverse) := by
            have h2 := eqv_alike t ((e4.app (Alike.refl [-a])).cons a)
            have h3 := eqv_strike t (a :: R.reverse) a []
            rw [List.append_nil] at h3
            refine he.trans (h2.trans ?_)
            simpa using h3
          have hI2 : Irr F (a :: R.reverse) := by
            have := irr_alike t hR (e4.cons a)
            rw [← List.cons_append] at this
            exact irr_init this
          exact (RL.shift' t hI2 (irr_alike t hL e4) (h.alike t e4)).alike t ((eqv_irr t e5 hK hI2).symm t.sy)
        · have h2 : ∀ x ∈ L, F a x = true := fun x hx => h1 x (List.mem_reverse.mpr hx)
          have e5 : Eqv F K L := by
            have h3 := eqv_alike t (through (v := [-a]) h2)
            have h4 := eqv_strike t L a []
            rw [List.append_nil] at h4
            exact he.trans (h3.trans h4)
          exact h.alike t ((eqv_irr t e5 hK hL).symm t.sy)
theorem eqv_app_l (t : Tf F) (u : List Int) {x y : List Int} (h : Eqv F x y) : Eqv F (u ++ x) (u ++ y) := leastT_inj t (by rw [← leastT_appl t, leastT_eqv t h, leastT_appl t])
theorem red_conj (t : Tf F) {w : List Int} {n : Nat} (h : RL F (red F w) n) : ∀ by_ : List Int, RL F (red F (by_ ++ w ++ bkw by_)) n
  | [] => by simpa [bkw] using h
  | b :: u => by
    refine RL.conj t (a := b) (red_is_irr t _) (red_is_irr t _) ?_ (red_conj t h u)
    have h1 := (red_eqv t (b :: u ++ w ++ bkw (b :: u))).symm t
    have h2 := red_eqv t (u ++ w ++ bkw u)
    have h3 := eqv_app_l t [b] (eqv_app_r t h2 [-b])
    refine h1.trans ?_
    rw [bkw_cons]
    simpa using h3
theorem sw_map (t : Tf F) {x y : List Int} (h : Sw F x y) : Sw F (x.map fun a => -a) (y.map fun a => -a) := by
  cases h with
  | mk u a b v h =>
    simp only [List.map_append, List.map_cons]
    exact .mk _ _ _ _ (by rw [t.ng, t.ng2]; exact h)
theorem alike_bkw (t : Tf F) {x y : List Int} (h : Alike F x y) : Alike F (bkw x) (bkw y) := by
  refine alike_rev t ?_
  obtain ⟨n, h⟩ := h
  induction h with
  | refl n w => exact .refl _
  | step _ h2 ih => exact ih.trans (sw_map t h2).alike
theorem bkw_app (x y : List Int) : bkw (x ++ y) = bkw y ++ bkw x := by simp [bkw]
theorem Strip.bkw (t : Tf F) {L M : List Int} (h : Strip F L M) : Strip F (bkw L) (bkw M) := by
  obtain ⟨a, h⟩ := h
  refine ⟨a, ?_⟩
  have := alike_bkw t h
  rw [bkw_cons, bkw_app] at this
  simpa [RW.bkw] using this
theorem RL.bkw (t : Tf F) {L : List Int} {n : Nat} (h : RL F L n) : RL F (bkw L) n := by
  induction h with
  | stop h =>
    rename_i L
    rw [← bkw_len L]
    refine .stop fun M s => ?_
    have := s.bkw t
    rw [bkw_bkw] at this
    exact h _ this
  | step s _ ih => exact .step (s.bkw t) ih
theorem irr_bkw (t : Tf F) {w : List Int} (h : Irr F w) : Irr F (bkw w) := fun u a v e => by
  have := alike_bkw t e
  rw [bkw_bkw, bkw_app, bkw_cons, bkw_cons, Int.neg_neg] at this
  refine h (bkw v) a (bkw u) ?_
  simpa using this
theorem eqv_bkw (t : Tf F) {x y : List Int} (h : Eqv F x y) : Eqv F (bkw x) (bkw y) := by
  have h1 : leastT F (bkw x ++ (x ++ bkw y)) = leastT F (bkw x ++ (y ++ bkw y)) := leastT_eqv t (eqv_app_l t _ (eqv_app_r t h _))
  have h2 : leastT F (bkw x ++ (y ++ bkw y)) = leastT F (bkw x) := by
    have := leastT_cancel t y (RW.bkw x) []
    simpa using this
  have h3 : leastT F (bkw x ++ (x ++ bkw y)) = leastT F (bkw y) := by
    have := leastT_cancel t (RW.bkw x) [] (RW.bkw y)
    rw [bkw_bkw] at this
    simpa using this
  exact leastT_inj t (by rw [← h2, ← h1, h3])
theorem red_back (t : Tf F) {w : List Int} {n : Nat} (h : RL F (red F w) n) : RL F (red F (bkw w)) n := by
  refine (h.bkw t).alike t (eqv_irr t ?_ (irr_bkw t (red_is_irr t w)) (red_is_irr t _))
  exact (eqv_bkw t ((red_eqv t w).symm t)).trans (red_eqv t _)
end
end RW

/-! round words: the places -/
namespace RW
open TR
section
variable {F : Int → Int → Bool}
def epl (F : Int → Int → Bool) (w : List Int) : List Nat := (List.range w.length).filter fun i => (w.drop (i + 1)).all fun o => F (w.getD i 0) o
theorem mem_epl {w : List Int} {i : Nat} : i ∈ epl F w ↔ i < w.length ∧ ((w.drop (i + 1)).all fun o => F (w.getD i 0) o) = true := by
  unfold epl
  rw [List.mem_filter, List.mem_range]
/-- the ends that fit the front place i -/
def fits (F : Int → Int → Bool) (w : List Int) (i : Nat) : List Nat := (epl F w).filter fun j => decide (w.getD j 0 = -w.getD i 0)
/-- the first front place with an end that fits -/
def opl (F : Int → Int → Bool) (w : List Int) : List Nat → Option (Nat × Nat)
  | [] => none
  | i :: r => match fits F w i with
    | j :: _ => some (i, j)
    | [] => opl F w r
def opn (F : Int → Int → Bool) (w : List Int) : Option (Nat × Nat) := opl F w (fpl F w)
theorem opl_some {w : List Int} {i j : Nat} : ∀ {l : List Nat}, opl F w l = some (i, j) → i ∈ l ∧ j ∈ epl F w ∧ w.getD j 0 = -w.getD i 0
  | [], h => by cases h
  | x :: r, h => by
    rw [opl] at h
    cases e : fits F w x with
    | nil =>
      rw [e] at h
      obtain ⟨h1, h2⟩ := opl_some h
      exact ⟨List.mem_cons_of_mem _ h1, h2⟩
    | cons y s =>
      rw [e] at h
      cases h
      have : j ∈ fits F w i := by rw [e]; exact List.mem_cons_self
      obtain ⟨h1, h2⟩ := List.mem_filter.mp this
      exact ⟨List.mem_cons_self, h1, of_decide_eq_true h2⟩
theorem opl_none {w : List Int} : ∀ {l : List Nat}, opl F w l = none → ∀ i ∈ l, ∀ j ∈ epl F w, w.getD j 0 ≠ -w.getD i 0
  | [], _, i, hi, _, _ => by cases hi
  | x :: r, h, i, hi, j, hj => by
    rw [opl] at h
    cases e : fits F w x with
    | nil =>
      rw [e] at h
      rcases List.mem_cons.mp hi with rfl | hi
      · intro z
        have : j ∈ fits F w i := List.mem_filter.mpr ⟨hj, decide_eq_true z⟩
        rw [e] at this
        cases this
      · exact opl_none h i hi j hj
    | cons y s => rw [e] at h; cases h
/-- a word without two places -/
def cutp (w : List Int) (i j : Nat) : List Int := w.take i ++ ((w.drop (i + 1)).take (j - (i + 1)) ++ w.drop (j + 1))
theorem through_end {b : Int} (t : Tf F) : ∀ {C : List Int}, (∀ x ∈ C, F b x = true) → Alike F (b :: C) (C ++ [b]) := fun {C} h => by
  have := through (F := F) (a := b) (L := C) (v := []) h
  simpa using this
theorem place_split {w : List Int} {i j : Nat} (hij : i < j) (hj : j < w.length) : w = w.take i ++ w.getD i 0 :: ((w.drop (i + 1)).take (j - (i + 1)) ++ w.getD j 0 :: w.drop (j + 1)) := by
  have e1 : w.drop i = w.getD i 0 :: w.drop (i + 1) := by
    rw [List.drop_eq_getElem_cons (by omega), List.getD_eq_getElem?_getD, List.getElem?_eq_getElem (by omega)]
    rfl
  have e2 : w.drop j = w.getD j 0 :: w.drop (j + 1) := by
    rw [List.drop_eq_getElem_cons hj, List.getD_eq_getElem?_getD, List.getElem?_eq_getElem hj]
    rfl
  have e3 : w.drop (i + 1) = (w.drop (i + 1)).take (j - (i + 1)) ++ w.drop j := by
    have := (List.take_append_drop (j - (i + 1)) (w.drop (i + 1))).symm
    rw [List.drop_drop, show i + 1 + (j - (i + 1)) = j by omega] at this
    exact this
  conv => lhs; rw [← List.take_append_drop i w, e1, e3, e2]
theorem strip_places (t : Tf F) {w : List Int} (hz : ∀ x ∈ w, x ≠ 0) {i j : Nat} (hi : i ∈ fpl F w) (hj : j ∈ epl F w) (h : w.getD j 0 = -w.getD i 0) : i < j ∧ j < w.length ∧ Alike F w (w.getD i 0 :: (cutp w i j ++ [-w.getD i 0])) := by
  obtain ⟨hi1, hi2⟩ := mem_fpl.mp hi
  obtain ⟨hj1, hj2⟩ := mem_epl.mp hj
  rw [List.all_eq_true] at hi2 hj2
  have hij : i < j := by
    rcases Nat.lt_trichotomy i j with h1 | h1 | h1
    · exact h1
    · subst h1
      exact absurd (show w.getD i 0 = 0 by omega) (hz _ (getD_mem hi1))
    · have : w.getD j 0 ∈ w.take i := by
        rw [List.mem_take_iff_getElem]
        exact ⟨j, by omega, by rw [List.getD_eq_getElem?_getD, List.getElem?_eq_getElem hj1]; rfl⟩
      have := hi2 _ this
      rw [h, t.opp] at this
      cases this
  refine ⟨hij, hj1, ?_⟩
  have e := place_split hij hj1
  have hA : ∀ x ∈ w.take i, F (w.getD i 0) x = true := hi2
  have hC : ∀ x ∈ w.drop (j + 1), F (w.getD j 0) x = true := hj2
  unfold cutp
  rw [h] at hC e
  generalize w.getD i 0 = a at *
  generalize w.take i = A at *
  generalize (w.drop (i + 1)).take (j - (i + 1)) = B at *
  generalize w.drop (j + 1) = C at *
  rw [e]
  have h1 := (through (F := F) (v := B ++ -a :: C) hA).symm t.sy
  refine h1.trans ?_
  have h2 := through_end t hC
  have := (((Alike.refl A).app ((Alike.refl B).app h2)).cons a)
  simpa using this
theorem opn_some (t : Tf F) {w : List Int} (hz : ∀ x ∈ w, x ≠ 0) {i j : Nat} (h : opn F w = some (i, j)) : i < j ∧ j < w.length ∧ w.getD j 0 = -w.getD i 0 ∧ Alike F w (w.getD i 0 :: (cutp w i j ++ [-w.getD i 0])) := by
  obtain ⟨h1, h2, h3⟩ := opl_some h
  obtain ⟨g1, g2, g3⟩ := strip_places t hz h1 h2 h3
  exact ⟨g1, g2, h3, g3⟩
theorem rev_epl {w : List Int} {i : Nat} (h : i ∈ fpl F w.reverse) : w.length - 1 - i ∈ epl F w ∧ w.getD (w.length - 1 - i) 0 = w.reverse.getD i 0 := by
  obtain ⟨h1, h2⟩ := mem_fpl.mp h
  rw [List.length_reverse] at h1
  have e : w.getD (w.length - 1 - i) 0 = w.reverse.getD i 0 := by
    rw [List.getD_eq_getElem?_getD, List.getD_eq_getElem?_getD, List.getElem?_reverse h1]
  refine ⟨mem_epl.mpr ⟨by omega, ?_⟩, e⟩
  rw [e, show w.length - 1 - i + 1 = w.length - i by omega]
  rw [List.take_reverse, List.all_reverse] at h2
  exact h2
theorem opn_none (t : Tf F) {w : List Int} (h : opn F w = none) : ∀ M, ¬ Strip F w M := by
  rintro M ⟨a, e⟩
  obtain ⟨v, h1, _⟩ := alike_ext t e
  obtain ⟨i, hi, hia, _⟩ := ext_fpl h1
  have e2 := alike_rev t e
  rw [List.reverse_cons, List.reverse_append, List.reverse_singleton, List.singleton_append, List.cons_append] at e2
  obtain ⟨u, h2, _⟩ := alike_ext t e2
  obtain ⟨j, hj, hja, _⟩ := ext_fpl h2
  obtain ⟨g1, g2⟩ := rev_epl hj
  exact opl_none h i hi _ g1 (by rw [g2, hja, hia])
/-- can it be struck at both ends -/
theorem opn_iff (t : Tf F) {w : List Int} (hz : ∀ x ∈ w, x ≠ 0) : opn F w = none ↔ ∀ M, ¬ Strip F w M := by
  constructor
  · exact opn_none t
  · intro h
    cases e : opn F w with
    | none => rfl
    | some p =>
      obtain ⟨i, j⟩ := p
      obtain ⟨_, _, _, h4⟩ := opn_some t hz e
      exact absurd ⟨_, h4⟩ (h _)
theorem cutp_len {w : List Int} {i j : Nat} (h1 : i < j) (h2 : j < w.length) : (cutp w i j).length + 2 = w.length := by
  unfold cutp
  simp only [List.length_append, List.length_take, List.length_drop]
  omega
theorem mem_cutp {w : List Int} {i j : Nat} {x : Int} (h : x ∈ cutp w i j) : x ∈ w := by
  unfold cutp at h
  rcases List.mem_append.mp h with h | h
  · exact List.mem_of_mem_take h
  · rcases List.mem_append.mp h with h | h
    · exact List.mem_of_mem_drop (List.mem_of_mem_take h)
    · exact List.mem_of_mem_drop h
/-- round: nothing to strike, neither within nor at both ends -/
def Rnd (F : Int → Int → Bool) (w : List Int) : Prop := Irr F w ∧ ∀ M, ¬ Strip F w M
theorem irr_iff (t : Tf F) {w : List Int} : Irr F w ↔ (leastT F w).length = w.length := by
  constructor
  · intro h
    rw [leastT_irr t h, ordT_len t]
  · intro h u a v e
    have h1 := leastT_eqv t (eqv_alike t e)
    rw [leastT_strike t] at h1
    have h2 := (leastT_len t (u ++ v)).2
    have h3 := e.len
    rw [h1] at h
    simp only [List.length_append, List.length_cons] at h2 h3
    omega
/-- the words of a class with fitting ends -/
def sndP (x : List Int) : Bool := decide (1 < x.length) && decide (x.getD 0 0 = -x.getD (x.length - 1) 0)
theorem class_round {w : List Int} {fs : List (List Int)} (hf : ∀ x, x ∈ fs ↔ Alike F w x) : fs.filter sndP = [] ↔ ∀ M, ¬ Strip F w M := by
  rw [List.filter_eq_nil_iff]
  constructor
  · rintro h M ⟨a, e⟩
    refine h _ ((hf _).mpr e) ?_
    unfold sndP
    have : (a :: (M ++ [-a])).length = M.length + 2 := by simp
    rw [this]
    have e2 : (a :: (M ++ [-a])).getD (M.length + 2 - 1) 0 = -a := by
      rw [show M.length + 2 - 1 = M.length + 1 by omega, List.getD_cons_succ, List.getD_eq_getElem?_getD, List.getElem?_append_right (Nat.le_refl _)]
      simp
    rw [e2]
    simp
  · intro h x hx z
    unfold sndP at z
    simp only [Bool.and_eq_true, decide_eq_true_eq] at z
    obtain ⟨z1, z2⟩ := z
    obtain ⟨a, M, b, rfl⟩ : ∃ a M b, x = a :: (M ++ [b]) := by
      cases x with
      | nil => simp at z1
      | cons a y =>
        have hy : y ≠ [] := by intro e; rw [e] at z1; simp at z1
        exact ⟨a, y.dropLast, y.getLast hy, by rw [List.dropLast_concat_getLast hy]⟩
    have e3 : (a :: (M ++ [b])).getD ((a :: (M ++ [b])).length - 1) 0 = b := by
      have : (a :: (M ++ [b])).length - 1 = M.length + 1 := by simp
      rw [this, List.getD_cons_succ, List.getD_eq_getElem?_getD, List.getElem?_append_right (Nat.le_refl _)]
      simp
    rw [e3, List.getD_cons_zero] at z2
    have hb : b = -a := by omega
    rw [hb] at hx
    exact h M ⟨a, (hf _).mp hx⟩
end
end RW

namespace DLk41
open PySem L2 DL RW
section
variable {k : Nat} {m : Int} {qs : List (Int × Int)}
theorem r_end (hk : 10 ≤ k) (w : List Int) (hw : w.length ≤ 1000) {X : D} (hX : X = tp w ∨ X = .lst (w.map .int)) (st : Stor) : run defs k 17 [.d (mkL m qs), .d X] st = .ok (.d (.lst ((RW.epl (Fs qs) w).map fun (i : Nat) => .int (i : Int)))) st := by
  rw [u_end_places (by omega)]
  have hpass := @r_pass (k - 1) m qs (by omega)
  have en := enumD (mk := D.int) (l := w) 0
  have hit : ∀ env st, iEnum_ (eV 1) env st = iEnum_ (eV 1) env st := fun _ _ => rfl
  obtain ⟨p, hp⟩ : ∃ p : Nat → Bool, p = fun i => (w.drop (i + 1)).all fun o => Fs qs (w.getD i 0) o := ⟨_, rfl⟩
  have hsl : ∀ (i : Nat) st, dSl st (.d X) (some ((i : Int) + 1)) none = some (.d (tp (w.drop (i + 1)))) ∨ dSl st (.d X) (some ((i : Int) + 1)) none = some (.n ((w.drop (i + 1)).map .int)) := fun i st => by
    rcases hX with rfl | rfl
    · left
      show some (W.d (.tup (DL.cutD (w.map .int) (some ((i : Int) + 1)) none))) = _
      rw [cut_from1]
      rfl
    · right
      show some (W.n (DL.cutD (w.map .int) (some ((i : Int) + 1)) none)) = _
      rw [cut_from1]
  have key : ∀ (tg : D → Envi → Option Envi) (body : DenS), tg = tT 2 (DL.tCons (tN 3) (DL.tCons (tN 4) DL.tNil)) → body = (sIf (bV (eB dAll (DL.gCons (eLc (iS (eSl (eV 1) (oSome (eOp dAdd (eV 3) (eC (.int 1)))) oNone)) (tN 5) bYes (eCall (run defs (k - 1)) 9 (DL.gCons (eV 0) (DL.gCons (eV 4) (DL.gCons (eV 5) DL.gNil))))) DL.gNil))) (sApp 2 (eV 3)) sNext) →
      ∃ env' st', forGo tg body ((List.range w.length).map fun i : Nat => D.tup [.int (i : Int), .int (w.getD i 0)]) [some (.d (mkL m qs)), some (.d X), some (.r st.length), none, none, none] (st ++ [.lst []]) = .nx env' st' ∧ (∃ o3 o4 o5, env' = [some (.d (mkL m qs)), some (.d X), some (.r st.length), o3, o4, o5]) ∧ st' = st ++ [.lst (((List.range w.length).filter p).map fun (i : Nat) => .int (i : Int))] := by
    intro tg body htg hbody
    generalize hz : forGo _ _ _ _ _ = z
    obtain ⟨env', st', rfl, ⟨o3, o4, o5, rfl⟩, rfl⟩ := forZi hz (fun i : Nat => D.tup [.int (i : Int), .int (w.getD i 0)]) (List.range w.length) rfl (fun i env st' => (∃ o3 o4 o5, env = [some (.d (mkL m qs)), some (.d X), some (.r st.length), o3, o4, o5]) ∧ st' = st ++ [.lst (((List.range i).filter p).map fun (i : Nat) => .int (i : Int))]) ⟨⟨_, _, _, rfl⟩, by simp⟩ (by
      rintro i hi env st' ⟨⟨o3, o4, o5, rfl⟩, rfl⟩
      have hi : i < w.length := by simpa using hi
      rw [List.getElem_range, htg, hbody]
      generalize hx : w.getD i 0 = x
      refine ⟨_, by simp; rfl, ?_⟩
      have e : (w.drop (i + 1)).all (fun o => Fs qs x o) = p i := by rw [hp, ← hx]
      have e2 : ((List.range (i + 1)).filter p).map (fun (i : Nat) => D.int (i : Int)) = ((List.range i).filter p).map (fun (i : Nat) => D.int (i : Int)) ++ (if p i then [.int i] else []) := by
        rw [List.range_succ, List.filter_append, List.map_append]
        congr 1
        cases h : p i <;> simp [h]
      have hb : ((List.range i).filter p).length ≤ 1000 := Nat.le_trans (List.length_filter_le _ _) (by rw [List.length_range]; omega)
      have hlc : ∀ st', lcGo (lcStep (tN 5) bYes (eCall (run defs (k - 1)) 9 (DL.gCons (eV 0) (DL.gCons (eV 4) (DL.gCons (eV 5) DL.gNil)))) [some (.d (mkL m qs)), some (.d X), some (.r st.length), some (.d (.int i)), some (.d (.int x)), o5]) ((w.drop (i + 1)).map .int) st' = .ok ((w.drop (i + 1)).map fun o => .bl (Fs qs x o)) st'   := fun st' => by
        generalize hz : lcGo _ _ _ = z
        exact lcZ_map hz .int (w.drop (i + 1)) rfl (fun o => .bl (Fs qs x o)) (fun o _ => by simp [lcStep_def, hpass])
      have hlen : ((w.drop (i + 1)).map D.int).length ≤ 16777216 := by simp; omega
      rw [e2]
      rcases hsl i (st ++ [.lst (((List.range i).filter p).map fun (i : Nat) => .int (i : Int))]) with h | h
      · simp only [tp] at h
        simp [h, W.seqD, hlc, hlen, e, -List.map_drop, -List.length_map, -List.all_eq_true]
        cases p i
        · simp
        · simp [sApp, show ((List.range i).filter p).length < 16777216 by omega]
      · simp [h, W.seqD, hlc, hlen, e, -List.map_drop, -List.length_map, -List.all_eq_true]
        cases p i
        · simp
        · simp [sApp, show ((List.range i).filter p).length < 16777216 by omega])
    rw [List.length_range]
    exact ⟨_, _, rfl, ⟨_, _, _, rfl⟩, rfl⟩
  obtain ⟨env', st', h1, ⟨o3, o4, o5, rfl⟩, rfl⟩ := key _ _ rfl rfl
  have e9 : RW.epl (Fs qs) w = (List.range w.length).filter p := by rw [hp]; rfl
  rw [e9]
  rcases hX with rfl | rfl
  · simp only [tp] at h1
    simp [b_end_places, tp, en, h1, sFrz, envR, -List.getD_eq_getElem?_getD]
  · simp [b_end_places, en, h1, sFrz, envR, -List.getD_eq_getElem?_getD]
end
end DLk41

namespace DLk41
open PySem L2 DL RW TR
section
variable {k : Nat} {m : Int} {qs : List (Int × Int)}
def opD : Option (Nat × Nat) → D
  | none => .non
  | some (i, j) => .tup [.int (i : Int), .int (j : Int)]
abbrev nD (i : Nat) : D := .int (i : Int)
theorem okL_nD {n : Nat} {l : List Nat} : D.okL (n + 1) (l.map nD) = true := by
  rw [okL_iff]
  intro d hd
  obtain ⟨x, _, rfl⟩ := List.mem_map.mp hd
  simp
theorem epl_le {F : Int → Int → Bool} {w : List Int} : (epl F w).length ≤ w.length := Nat.le_trans (List.length_filter_le _ _) (by rw [List.length_range]; omega)
theorem r_outer (hk : 15 ≤ k) (w : List Int) (hw : w.length ≤ 1000) (st : Stor) : run defs k 18 [.d (mkL m qs), .d (.lst (w.map .int))] st = .ok (.d (opD (opn (Fs qs) w))) st := by
  have hfr := @r_front (k - 1) m qs (by omega) w hw (.lst (w.map .int)) (.inr rfl)
  have hen := @r_end (k - 1) m qs (by omega) w hw (.lst (w.map .int)) (.inr rfl)
  have hel := epl_le (F := Fs qs) (w := w)
  have key : ∀ (tg : D → Envi → Option Envi) (body : DenS), tg = tN 3 → body = (sSeq (sSet 4 (eLc (iS (eV 2)) (tN 5) (bV (eOp dEq (eOp dIx (eV 1) (eV 5)) (eNeg (eOp dIx (eV 1) (eV 3))))) (eV 5))) (sIf (bV (eOp dNe (eV 4) (eLst aNil))) (sRet (eTup (aCons (eV 3) (aCons (eOp dIx (eV 4) (eC (.int 0))) aNil)))) sNext)) →
      ∀ (l : List Nat) (o3 o4 : Option SV), (∀ i ∈ l, i < w.length) → (forGo tg body (l.map nD) [some (.d (mkL m qs)), some (.d (.lst (w.map .int))), some (.d (.lst ((epl (Fs qs) w).map nD))), o3, o4, none] st).seq (sRet (eC .non)) = .rt (.d (opD (opl (Fs qs) w l))) st := by
    intro tg body htg hbody l
    induction l with
    | nil =>
      intro o3 o4 _
      simp [forGo, opl, opD]
    | cons i l ih =>
      intro o3 o4 hl
      have hi := hl i List.mem_cons_self
      rw [List.map_cons, forGo_cons (env1 := [some (.d (mkL m qs)), some (.d (.lst (w.map .int))), some (.d (.lst ((epl (Fs qs) w).map nD))), some (.d (.int (i : Int))), o4, none]) (by rw [htg]; simp)]
      have hb : body [some (.d (mkL m qs)), some (.d (.lst (w.map .int))), some (.d (.lst ((epl (Fs qs) w).map nD))), some (.d (.int (i : Int))), o4, none] st = match fits (Fs qs) w i with
          | j :: _ => .rt (.d (.tup [.int (i : Int), .int (j : Int)])) st
          | [] => .nx [some (.d (mkL m qs)), some (.d (.lst (w.map .int))), some (.d (.lst ((epl (Fs qs) w).map nD))), some (.d (.int (i : Int))), some (.d (.lst [])), none] st := by
        rw [hbody]
        have e1 := ixA hi
        simp [W.seqD]
        generalize hz : lcGo _ _ _ = z
        have := lcZ_if hz nD (epl (Fs qs) w) rfl (fun j => decide (w.getD j 0 = -w.getD i 0)) nD (fun j hj => by
          have e2 := ixA (mem_epl.mp hj).1
          generalize w.getD i 0 = x at *
          generalize w.getD j 0 = y at *
          by_cases h : y = -x
          · simp [lcStep_def, e1, e2, h]
          · simp [lcStep_def, e1, e2, h])
        subst this
        have hf : (epl (Fs qs) w).filter (fun j => decide (w.getD j 0 = -w.getD i 0)) = fits (Fs qs) w i := rfl
        rw [hf]
        have hln : (epl (Fs qs) w).length ≤ 16777216 := by omega
        cases e : fits (Fs qs) w i with
        | nil => simp [hln]
        | cons j r =>
          have okl := okL_nD (n := 62) (l := j :: r)
          have e0 : atI ((j :: r).map nD) 0 = some (nD j) := by rw [show (0 : Int) = ((0 : Nat) : Int) from rfl, atI_n]; rfl
          have ene : D.eqvL ((j :: r).map nD) [] = false := rfl
          have hne : ∀ st, dNe st (.d (.lst ((j :: r).map nD))) (.n []) = some (.d (.bl true)) := fun st => by
            simp [okl, ene, -List.map_cons]
          generalize (j :: r).map nD = G at *
          simp [hln, hne, e0]
      rw [hb, opl]
      cases e : fits (Fs qs) w i with
      | nil =>
        simp only [loopO]
        exact ih _ _ fun x hx => hl x (List.mem_cons_of_mem _ hx)
      | cons j r => simp [loopO, opD]
  rw [u_outer_places (by omega)]
  simp [b_outer_places, hfr, hen]
  have := key _ _ rfl rfl (fpl (Fs qs) w) none none fun i hi => (mem_fpl.mp hi).1
  rw [this]
  simp [opn]
end
end DLk41

namespace DLk41
open PySem L2 DL RW TR
theorem cut1 : ∀ (L : List Int) (j : Nat), ((List.range L.length).filter fun p => decide (p ≠ j)).map (fun p => L.getD p 0) = L.take j ++ L.drop (j + 1)
  | [], j => by simp
  | a :: L, 0 => by
    rw [List.length_cons, List.range_succ_eq_map, List.filter_cons, if_neg (by simp), List.filter_map, List.map_map]
    have e : (List.range L.length).filter ((fun p => decide (p ≠ 0)) ∘ Nat.succ) = List.range L.length := List.filter_eq_self.mpr fun x _ => by simp
    rw [e]
    have : ∀ L : List Int, (List.range L.length).map ((fun p => (a :: L).getD p 0) ∘ Nat.succ) = L := fun L => by
      refine List.ext_getElem (by simp) fun i h1 h2 => ?_
      simp [h2]
    simpa using this L
  | a :: L, j + 1 => by
    rw [List.length_cons, List.range_succ_eq_map, List.filter_cons, if_pos (by simp), List.filter_map, List.map_cons, List.map_map]
    have ih := cut1 L j
    have e : (List.range L.length).filter ((fun p => decide (p ≠ j + 1)) ∘ Nat.succ) = (List.range L.length).filter fun p => decide (p ≠ j) := List.filter_congr fun x _ => by simp
    rw [e]
    have e2 : ((fun p => (a :: L).getD p 0) ∘ Nat.succ) = fun p => L.getD p 0 := by funext p; simp
    rw [e2, ih]
    simp
theorem cut2p : ∀ (L : List Int) (i j : Nat), i < j → ((List.range L.length).filter fun p => decide (p ≠ i) && decide (p ≠ j)).map (fun p => L.getD p 0) = cutp L i j
  | [], i, j, _ => by simp [cutp]
  | a :: L, 0, j + 1, _ => by
    rw [List.length_cons, List.range_succ_eq_map, List.filter_cons, if_neg (by simp), List.filter_map, List.map_map]
    have ih := cut1 L j
    have e : (List.range L.length).filter ((fun p => decide (p ≠ 0) && decide (p ≠ j + 1)) ∘ Nat.succ) = (List.range L.length).filter fun p => decide (p ≠ j) := List.filter_congr fun x _ => by simp
    have e2 : ((fun p => (a :: L).getD p 0) ∘ Nat.succ) = fun p => L.getD p 0 := by funext p; simp
    rw [e, e2, ih]
    simp [cutp]
  | a :: L, i + 1, j + 1, h => by
    rw [List.length_cons, List.range_succ_eq_map, List.filter_cons, if_pos (by simp), List.filter_map, List.map_cons, List.map_map]
    have ih := cut2p L i j (by omega)
    have e : (List.range L.length).filter ((fun p => decide (p ≠ i + 1) && decide (p ≠ j + 1)) ∘ Nat.succ) = (List.range L.length).filter fun p => decide (p ≠ i) && decide (p ≠ j) := List.filter_congr fun x _ => by simp
    have e2 : ((fun p => (a :: L).getD p 0) ∘ Nat.succ) = fun p => L.getD p 0 := by funext p; simp
    rw [e, e2, ih]
    unfold cutp
    rw [show j + 1 - (i + 1 + 1) = j - (i + 1) by omega]
    simp
section
variable {k : Nat} {m : Int} {qs : List (Int × Int)}
structure RI_ (F : Int → Int → Bool) (w A B : List Int) : Prop where
  eqv : Eqv F w (A ++ B ++ bkw A)
  irr : Irr F B
  len : 2 * A.length + B.length ≤ w.length
  mb : ∀ x ∈ B, x ∈ w
  ma : ∀ x ∈ A, x ∈ w
  rl : ∀ q, RL F (red F w) q → RL F B q
theorem RI_.step {F : Int → Int → Bool} (t : Tf F) {w A B : List Int} (h : RI_ F w A B) (hz : ∀ x ∈ w, x ≠ 0) {i j : Nat} (e : opn F B = some (i, j)) : RI_ F w (A ++ [B.getD i 0]) (cutp B i j) ∧ i < j ∧ j < B.length := by
  obtain ⟨h1, h2, h3, h4⟩ := opn_some t (fun x hx => hz x (h.mb x hx)) e
  have hm := getD_mem (w := B) (i := i) (by omega)
  have hl := cutp_len h1 h2
  generalize B.getD i 0 = a at *
  have hs : Strip F B (cutp B i j) := ⟨a, h4⟩
  refine ⟨⟨?_, hs.irr h.irr, by rw [List.length_append]; have := h.len; simp; omega, fun x hx => h.mb x (mem_cutp hx), fun x hx => ?_, fun q hq => (h.rl q hq).strip t hs⟩, h1, h2⟩
  · refine h.eqv.trans (eqv_alike t ?_)
    have := ((Alike.refl A).app h4).app (Alike.refl (bkw A))
    rw [bkw_app]
    simpa [bkw] using this
  · rcases List.mem_append.mp hx with z | z
    · exact h.ma x z
    · rw [List.mem_singleton.mp z]
      exact h.mb _ hm
theorem r_round_in (hk : 20 ≤ k) (g : GoodL m qs) {w : List Int} (hw : w.length ≤ 24) (hz : ∀ x ∈ w, x ≠ 0) (st : Stor) : ∃ A B, run defs k 19 [.d (mkL m qs), .d (tp w)] st = .ok (.d (.tup [tp A, tp B])) st ∧ RI_ (Fs qs) w A B ∧ ∀ M, ¬ Strip (Fs qs) B M := by
  have t := tfQ g
  have hred := @r_reduced (k - 1) m qs (by omega) g w (by omega)
  have hrl := red_len t w
  have hout := fun L hL => @r_outer (k - 1) m qs (by omega) L hL
  rw [u_round_in (by omega)]
  simp only [tp] at hred
  simp [b_round_in, tp, hred, hout (red (Fs qs) w) (by omega)]
  generalize hzz : whileGo _ _ _ _ _ = z
  obtain ⟨R, hR⟩ : ∃ R : Nat → Envi → Stor → Prop, R = fun n env st' => ∃ (L A : List Int) (o5 o6 : Option SV), env = [some (.d (mkL m qs)), some (.d (.tup (w.map .int))), some (.d (.lst (L.map .int))), some (.d (.tup (A.map .int))), some (.d (opD (opn (Fs qs) L))), o5, o6, none, none] ∧ st' = st ∧ L.length = n ∧ RI_ (Fs qs) w A L := ⟨_, rfl⟩
  obtain ⟨n', env', st', rfl, hRe, hstop⟩ := whileZ hzz (R := R) (n := (red (Fs qs) w).length) (by
    rw [hR]
    exact ⟨red (Fs qs) w, [], none, none, rfl, rfl, rfl, ⟨by simpa [bkw] using red_eqv t w, red_is_irr t w, by simpa using hrl.2, fun x hx => mem_red t hx, fun x hx => (by cases hx), fun q hq => hq⟩⟩) (by omega) (by
    intro n env st' h
    rw [hR] at h
    obtain ⟨L, A, o5, o6, rfl, rfl, hn, hI⟩ := h
    cases e : opn (Fs qs) L with
    | none =>
      left
      simp [opD]
    | some p =>
      obtain ⟨i, j⟩ := p
      right
      obtain ⟨hI2, hij, hj⟩ := hI.step t hz e
      have hl := cutp_len hij hj
      have hL := hI.len
      refine ⟨by simp [opD], (cutp L i j).length, ?_⟩
      have e1 := ixA (l := L) (n := i) (by omega)
      have en := enumD (mk := D.int) (l := L) 0
      have ho := hout (cutp L i j) (by omega) st'
      have hcut := cut2p L i j hij
      generalize hx : L.getD i 0 = x at *
      simp [opD, e1, en, show A.length + 1 ≤ 16777216 by omega]
      generalize hz : lcGo _ _ _ = z
      have := lcZ_if hz (fun p : Nat => D.tup [.int (p : Int), .int (L.getD p 0)]) (List.range L.length) (by simp) (fun p => decide (p ≠ i) && decide (p ≠ j)) (fun p => .int (L.getD p 0)) (fun p hp => by
        generalize L.getD p 0 = y
        by_cases h1 : p = i
        · simp [lcStep_def, h1]
        · by_cases h2 : p = j
          · simp [lcStep_def, h1, h2]
          · have h3 : ¬ (i : Int) = (p : Int) := fun z => h1 (by omega)
            have h4 : ¬ (j : Int) = (p : Int) := fun z => h2 (by omega)
            simp [lcStep_def, h1, h2, h3, h4])
      subst this
      have e3 : (List.filter (fun p => decide (p ≠ i) && decide (p ≠ j)) (List.range L.length)).map (fun p => D.int (L.getD p 0)) = (cutp L i j).map .int := by
        rw [← hcut, List.map_map]
        rfl
      rw [e3]
      generalize cutp L i j = L' at *
      simp [show L.length ≤ 16777216 by omega, ho]
      refine ⟨by omega, _, _, ⟨rfl, rfl⟩, ?_⟩
      rw [hR]
      exact ⟨L', A ++ [x], _, _, by simp; exact ⟨rfl, rfl⟩, rfl, rfl, hI2⟩)
  rw [hR] at hRe
  obtain ⟨L, A, o5, o6, rfl, rfl, hn, hI⟩ := hRe
  have hno : opn (Fs qs) L = none := by
    cases e : opn (Fs qs) L with
    | none => rfl
    | some p =>
      obtain ⟨i, j⟩ := p
      rw [e] at hstop
      simp [opD] at hstop
  have hst := opn_none t hno
  have hL := hI.len
  have hord := @r_ordered (k - 1) m qs (by omega) g L (by omega) st'
  have hal := ordT_alike t L
  refine ⟨A, ordT (Fs qs) L, by simp [hord, tp], ⟨?_, irr_alike t hI.irr hal, by rw [ordT_len t]; exact hI.len, fun x hx => hI.mb x (hal.perm.mem_iff.mpr hx), hI.ma, fun q hq => (hI.rl q hq).alike t hal⟩, fun M s => hst M (s.left t (hal.symm t.sy))⟩
  exact hI.eqv.trans (eqv_alike t (((Alike.refl A).app hal).app (Alike.refl _)))
end
end DLk41

namespace DLk41
open PySem L2 DL RW TR
section
variable {k : Nat} {m : Int} {qs : List (Int × Int)}
def rd (F : Int → Int → Bool) (w : List Int) : Bool := decide ((leastT F w).length = w.length) && (opn F w).isNone
theorem rd_iff {F : Int → Int → Bool} (t : Tf F) {w : List Int} (hz : ∀ x ∈ w, x ≠ 0) : rd F w = true ↔ Rnd F w := by
  unfold rd Rnd
  rw [Bool.and_eq_true, decide_eq_true_eq, ← irr_iff t, Option.isNone_iff_eq_none, opn_iff t hz]
theorem r_is_round_in (hk : 20 ≤ k) (g : GoodL m qs) {w : List Int} (hw : w.length ≤ 1000) (st : Stor) : run defs k 20 [.d (mkL m qs), .d (tp w)] st = .ok (.d (.bl (rd (Fs qs) w))) st := by
  have hred := @r_reduced (k - 1) m qs (by omega) g w (by omega)
  have hout := @r_outer (k - 1) m qs (by omega) w hw
  have hl : (leastT (Fs qs) w).length = (red (Fs qs) w).length := ordT_len (tfQ g) _
  rw [u_is_round_in (by omega)]
  simp only [tp] at hred
  have e : (((red (Fs qs) w).length : Int) = (w.length : Int)) = ((leastT (Fs qs) w).length = w.length) := by apply propext; omega
  have hL : ∀ st, dList st [.d (.tup (w.map .int))] = some (.n (w.map .int)) := fun st => by simp [show w.length ≤ 16777216 by omega]
  unfold rd
  by_cases h : (leastT (Fs qs) w).length = w.length
  · cases e2 : opn (Fs qs) w with
    | none =>
      rw [e2] at hout
      simp [b_is_round_in, tp, hred, e, h, hL, hout, opD]
    | some p =>
      rw [e2] at hout
      simp [b_is_round_in, tp, hred, e, h, hL, hout, opD]
  · simp [b_is_round_in, tp, hred, e, h]
def isTr (m : Int) (d : D) : Bool := isT_ d 0 24 && match d with
  | .tup l => l.all (isS m)
  | _ => false
theorem r_turned_g (hk : 6 ≤ k) {n : Nat} {d : D} (h : d.okd (n + 1) = true) (st : Stor) : run defs k 7 [.d (mkL m qs), .d d, .d (.int 24)] st = .ok (.d (.bl (isTr m d))) st := by
  rw [u_is_turned_of (by omega)]
  have ht := @r_tupof (k - 1) (by omega) d (okd_dat h) 0 24
  unfold isTr
  cases e : isT_ d 0 24 with
  | false =>
    rw [e] at ht
    simp [b_is_turned_of, ht]
  | true =>
    rw [e] at ht
    cases d with
    | tup l =>
      have hl : (l.length : Int) ≤ 24 := by simp [isT_] at e; omega
      have hok : D.okL n l = true := by simpa [D.okd] using h
      rw [okL_iff] at hok
      simp [b_is_turned_of, ht, show l.length ≤ 16777216 by omega]
      generalize hz : lcGo _ _ _ = z
      have := lcZ_map hz id l (by simp) (fun x => .bl (isS m x)) (fun x hx => by
        have := @r_signed (k - 1) m qs (by omega) x (okd_dat (hok x hx))
        simp [lcStep_def, this])
      subst this
      simp only [bind_ok, dAll_map, ofO_some]
      simp
    | _ => simp [isT_] at e
def goodV (m : Int) (d : D) : Bool := isT_ d 2 2 && match d with
  | .tup l => l.all (isTr m)
  | _ => false
theorem lc_turned {n : Nat} {l : List D} (hk : 6 ≤ k) (hok : D.okL (n + 1) l = true) {env : Envi} {e1 e2 e3 : Option SV} {r : List (Option SV)} (henv : env = some (.d (mkL m qs)) :: e1 :: e2 :: e3 :: r) (st : Stor) : lcGo (lcStep (tN 3) bYes (eCall (run defs k) 7 (DL.gCons (eV 0) (DL.gCons (eV 3) (DL.gCons (eC (.int 24)) DL.gNil)))) env) l st = .ok (l.map fun x => .bl (isTr m x)) st := by
  subst henv
  rw [okL_iff] at hok
  generalize hz : lcGo _ _ _ = z
  exact lcZ_map hz id l (by simp) (fun x => .bl (isTr m x)) (fun x hx => by
    have := @r_turned_g k m qs hk n x (hok x hx)
    simp [lcStep_def, this])
theorem r_shows_bad (hk : 25 ≤ k) {n : Nat} {d : D} (h : d.okd (n + 2) = true) (hb : goodV m d = false) (w : List Int) (st : Stor) : run defs k 21 [.d (mkL m qs), .d (tp w), .d d] st = .ok (.d (.bl false)) st := by
  have ht := @r_tupof (k - 1) (by omega) d (okd_dat h) 2 2
  rw [u_shows_round (by omega)]
  cases e : isT_ d 2 2 with
  | false =>
    rw [e] at ht
    simp [b_shows_round, ht]
  | true =>
    rw [e] at ht
    cases d with
    | tup l =>
      have hl : (l.length : Int) = 2 := by simp [isT_] at e; omega
      have hok : D.okL (n + 1) l = true := by simpa [D.okd] using h
      have hall : l.all (isTr m) = false := by
        unfold goodV at hb
        rw [e] at hb
        simpa using hb
      have hlc := fun st => @lc_turned (k - 1) m qs n l (by omega) hok [some (.d (mkL m qs)), some (.d (tp w)), some (.d (.tup l)), none, none, none, none] _ _ _ _ rfl st
      simp [b_shows_round, ht, hlc, show l.length ≤ 16777216 by omega, hall, -List.all_eq_false]
    | _ => simp [isT_] at e
theorem isTr_tp {w : List Int} (h : Wt m w) : isTr m (tp w) = true := by
  have hl := h.len
  have e0 : isT_ (tp w) 0 24 = true := by simp [isT_, tp]; omega
  unfold isTr
  rw [e0]
  simp only [tp, Bool.true_and, List.all_map, List.all_eq_true, Function.comp]
  intro x hx
  have := h.rg x hx
  simp [isS]
  omega
theorem r_shows (hk : 25 ≤ k) (g : GoodL m qs) {w a b : List Int} (hw : Wt m w) (ha : Wt m a) (hb : Wt m b) (st : Stor) : run defs k 21 [.d (mkL m qs), .d (tp w), .d (.tup [tp a, tp b])] st = .ok (.d (.bl (rd (Fs qs) b && decide (leastT (Fs qs) (a ++ b ++ bkw a) = leastT (Fs qs) w)))) st := by
  have ht := @r_tupof (k - 1) (by omega) (.tup [tp a, tp b]) rfl 2 2
  have e0 : isT_ (.tup [tp a, tp b]) 2 2 = true := rfl
  rw [e0] at ht
  have hok : D.okL (2 + 1) [tp a, tp b] = true := by simp [D.okL, okd_tp]
  have hlc := fun st => @lc_turned (k - 1) m qs 2 [tp a, tp b] (by omega) hok [some (.d (mkL m qs)), some (.d (tp w)), some (.d (.tup [tp a, tp b])), none, none, none, none] _ _ _ _ rfl st
  have la := ha.len
  have lb := hb.len
  have lw := hw.len
  have hbk := @r_back_in (k - 1) (by omega) a (by omega)
  have h1 := @add_tp a b (by omega)
  have h2 := @add_tp (a ++ b) (bkw a) (by rw [List.length_append, bkw_len]; omega)
  have h3 := @r_leastT (k - 1) m qs (by omega) g (a ++ b ++ bkw a) (by rw [List.length_append, List.length_append, bkw_len]; omega)
  have h4 := @r_leastT (k - 1) m qs (by omega) g w (by omega)
  have h5 := @r_is_round_in (k - 1) m qs (by omega) g b (by omega)
  have eq : ∀ (u v : List Int) st, dEq st (.d (tp u)) (.d (tp v)) = some (.d (.bl (decide (u = v)))) := fun u v st => by simp [okd_tp, tp_eqv]
  have hAll : ∀ st, dAll st [.n [.bl true, .bl true]] = some (.d (.bl true)) := fun _ => rfl
  rw [u_shows_round (by omega)]
  cases hr : rd (Fs qs) b with
  | false =>
    rw [hr] at h5
    simp [b_shows_round, ht, hlc, isTr_tp ha, isTr_tp hb, hAll, hbk, h1, h2, h3, h5, -List.append_assoc]
  | true =>
    rw [hr] at h5
    simp [b_shows_round, ht, hlc, isTr_tp ha, isTr_tp hb, hAll, hbk, h1, h2, h3, h4, h5, eq, -List.append_assoc]
theorem r_is_round (hk : 25 ≤ k) (g : GoodL m qs) {w : List Int} (h : Wt m w) (st : Stor) : run defs k 22 [.d (mkL m qs), .d (tp w)] st = .ok (.d (.bl (rd (Fs qs) w))) st := by
  rw [u_is_round (by omega)]
  simp [b_is_round, @r_need (k - 1) (by omega) m qs g.is, @r_need_turned (k - 1) m qs (by omega) w h, @r_is_round_in (k - 1) m qs (by omega) g w (by have := h.len; omega)]
theorem r_round (hk : 25 ≤ k) (g : GoodL m qs) {w : List Int} (h : Wt m w) (st : Stor) : ∃ A B, run defs k 23 [.d (mkL m qs), .d (tp w)] st = .ok (.d (.tup [tp A, tp B])) st ∧ run defs k 25 [.d (mkL m qs), .d (tp w)] st = .ok (.d (.int (B.length : Int))) st ∧ RI_ (Fs qs) w A B ∧ ∀ M, ¬ Strip (Fs qs) B M := by
  obtain ⟨A, B, e, h1, h2⟩ := @r_round_in (k - 1) m qs (by omega) g w h.len h.ne st
  refine ⟨A, B, ?_, ?_, h1, h2⟩
  · rw [u_round_of (by omega)]
    simp [b_round_of, @r_need (k - 1) (by omega) m qs g.is, @r_need_turned (k - 1) m qs (by omega) w h, e]
  · have e0 : atI [tp A, tp B] 1 = some (tp B) := rfl
    rw [u_round_length (by omega)]
    simp [b_round_length, @r_need (k - 1) (by omega) m qs g.is, @r_need_turned (k - 1) m qs (by omega) w h, e, e0]
    simp [tp]
theorem r_is_round_of (hk : 30 ≤ k) (g : GoodL m qs) {w a b : List Int} (hw : Wt m w) (ha : Wt m a) (hb : Wt m b) (st : Stor) : run defs k 24 [.d (mkL m qs), .d (tp w), .d (.tup [tp a, tp b])] st = .ok (.d (.bl (rd (Fs qs) b && decide (leastT (Fs qs) (a ++ b ++ bkw a) = leastT (Fs qs) w)))) st := by
  rw [u_is_round_of (by omega)]
  simp [b_is_round_of, @r_need (k - 1) (by omega) m qs g.is, @r_need_turned (k - 1) m qs (by omega) w hw, @r_shows (k - 1) m qs (by omega) g w a b hw ha hb, -List.append_assoc]
theorem r_is_round_of_bad (hk : 30 ≤ k) (g : GoodL m qs) {w : List Int} (hw : Wt m w) {n : Nat} {d : D} (h : d.okd (n + 2) = true) (hb : goodV m d = false) (st : Stor) : run defs k 24 [.d (mkL m qs), .d (tp w), .d d] st = .ok (.d (.bl false)) st := by
  rw [u_is_round_of (by omega)]
  simp [b_is_round_of, @r_need (k - 1) (by omega) m qs g.is, @r_need_turned (k - 1) m qs (by omega) w hw, @r_shows_bad (k - 1) m qs (by omega) n d h hb w]
end
end DLk41

namespace DLk41
open PySem L2 DL RW TR
section
variable {k : Nat} {m : Int} {qs : List (Int × Int)}
theorem ixL {l : List Int} (h : 0 < l.length) : atI (l.map D.int) (-1) = some (.int (l.getD (l.length - 1) 0)) := by
  rw [atI_m1, List.getLast?_map, List.getLast?_eq_getElem?, List.getD_eq_getElem?_getD, List.getElem?_eq_getElem (by omega)]
  rfl
theorem r_lback (hk : 3 ≤ k) (w : List Int) (hw : w.length ≤ 1000) (st : Stor) : run defs k 42 [.d (tp w)] st = .ok (.d (tp (bkw w))) st := by
  rw [u__law_back hk]
  simp [b__law_back, tp, show w.length ≤ 16777216 by omega]
  generalize hz : lcGo _ _ _ = z
  have := lcZ_map hz .int w.reverse (by simp) (fun a => .int (-a)) (fun a _ => by simp [lcStep_def])
  subst this
  simp [dTuple, W.asL, bkw]
theorem r_lround (hk : 25 ≤ k) (g : GoodL m qs) {w : List Int} (hw : w.length ≤ 7) (hnz : ∀ x ∈ w, x ≠ 0) (st : Stor) : run defs k 41 [.d (mkL m qs), .d (tp w)] st = .ok (.d (.bl (rd (Fs qs) w))) st := by
  have t := tfQ g
  obtain ⟨v, hr, he, hi, hl, hv⟩ := @r_lreduced (k - 1) m qs (by omega) g w hw st
  obtain ⟨fs, hc, hfs, nd, hfl⟩ := @r_class (k - 1) m qs (by omega) g w hw st
  have hvl : (leastT (Fs qs) w).length = v.length := by rw [leastT_eqv t he, leastT_irr t hi, ordT_len t]
  rw [u__law_is_round (by omega)]
  have e : ((v.length : Int) = (w.length : Int)) = ((leastT (Fs qs) w).length = w.length) := by apply propext; omega
  have a7 : ∀ st (v : List Int), dLen st [.d (tp v)] = some (.d (.int (v.length : Int))) := fun st v => by simp [tp]
  unfold rd
  by_cases h : (leastT (Fs qs) w).length = w.length
  · simp [b__law_is_round, hr, hc, a7, e, h, W.seqD]
    generalize hz : lcGo _ _ _ = z
    have := lcZ_if hz tp fs rfl sndP tp (fun x hx => by
      unfold sndP
      by_cases h1 : 1 < x.length
      · have i0 := ixA (l := x) (n := 0) (by omega)
        have i1 := ixL (l := x) (by omega)
        have h2 : (1 : Int) < (x.length : Int) := by omega
        have j0 : ∀ st, dIx st (.d (tp x)) (.d (.int 0)) = some (.d (.int (x.getD 0 0))) := fun st => by
          have : atI (x.map D.int) 0 = some (.int (x.getD 0 0)) := i0
          simp only [tp, dIx_t, this, Option.map_some]
        have j1 : ∀ st, dIx st (.d (tp x)) (.d (.int (-1))) = some (.d (.int (x.getD (x.length - 1) 0))) := fun st => by
          simp only [tp, dIx_t, i1, Option.map_some]
        generalize x.getD 0 0 = a at *
        generalize x.getD (x.length - 1) 0 = b at *
        by_cases h3 : a = -b
        · simp [lcStep_def, a7, h1, h2, j0, j1, h3]
        · simp [lcStep_def, a7, h1, h2, j0, j1, h3]
      · have h2 : ¬ (1 : Int) < (x.length : Int) := by omega
        simp [lcStep_def, a7, h1, h2])
    subst this
    have hcr := (class_round hfs).trans (opn_iff t hnz).symm
    have okl := okL_tp (n := 62) (l := fs.filter sndP)
    have ene : D.eqvL ((fs.filter sndP).map tp) [] = (fs.filter sndP).isEmpty := by rw [eqvL_nilE]; cases fs.filter sndP <;> rfl
    have e3 : (fs.filter sndP).isEmpty = (opn (Fs qs) w).isNone := by
      rw [Bool.eq_iff_iff, List.isEmpty_iff, Option.isNone_iff_eq_none]
      exact hcr
    rw [e3] at ene
    generalize (fs.filter sndP).map tp = G at *
    simp [show fs.length ≤ 16777216 by omega, okl, ene]
  · simp [b__law_is_round, hr, a7, e, h]
end
end DLk41

/-! a quick way to the least word: pairs struck where they stand, front letters taken -/
namespace RW
open TR
section
variable {F : Int → Int → Bool}
/-- at i and j stand opposite letters, and all between may pass -/
def GoodP (F : Int → Int → Bool) (L : List Int) (i j : Nat) : Prop := i < j ∧ j < L.length ∧ L.getD j 0 = -L.getD i 0 ∧ ∀ x ∈ (L.drop (i + 1)).take (j - (i + 1)), F (L.getD i 0) x = true
theorem goodP_eqv (t : Tf F) {L : List Int} {i j : Nat} (h : GoodP F L i j) : Eqv F L (cutp L i j) := by
  obtain ⟨h1, h2, h3, h4⟩ := h
  have e := place_split h1 h2
  unfold cutp
  rw [h3] at e
  generalize L.getD i 0 = a at *
  generalize (L.drop (i + 1)).take (j - (i + 1)) = B at *
  generalize L.take i = A at *
  generalize L.drop (j + 1) = C at *
  rw [e]
  have h5 := eqv_alike t ((Alike.refl A).app (through (v := -a :: C) h4))
  have h6 := eqv_strike t (A ++ B) a C
  refine h5.trans ?_
  simpa using h6
theorem not_goodP (t : Tf F) : ∀ {L : List Int}, (∀ i j, ¬ GoodP F L i j) → Red F L
  | [], _ => trivial
  | a :: L, h => by
    refine ⟨not_goodP t fun i j g => ?_, ?_⟩
    · obtain ⟨h1, h2, h3, h4⟩ := g
      refine h (i + 1) (j + 1) ⟨by omega, by simpa using h2, by simpa using h3, ?_⟩
      rw [show j + 1 - (i + 1 + 1) = j - (i + 1) by omega]
      simpa using h4
    · cases e : ext F (-a) L with
      | none => rfl
      | some v =>
        obtain ⟨p, hp, hpa, _⟩ := ext_fpl e
        obtain ⟨hp1, hp2⟩ := mem_fpl.mp hp
        refine absurd ⟨by omega, by simpa using hp1, by simpa using hpa, ?_⟩ (h 0 (p + 1))
        intro x hx
        rw [hpa, List.all_eq_true] at hp2
        have hx : x ∈ L.take p := by simpa using hx
        have := hp2 x hx
        rw [t.ng] at this
        simpa using this
theorem goodP_none (t : Tf F) {L : List Int} (h : ∀ i j, ¬ GoodP F L i j) : Irr F L := red_irr' t (not_goodP t h)
end
end RW
namespace DL
open PySem L2
/-! the least of rows ((o,), at) -/
section
variable {β : Type} {f g : β → Int}
abbrev shD (f g : β → Int) (b : β) : D := .tup [.tup [.int (f b)], .int (g b)]
theorem shD_lt {a b : β} : D.lt (shD f g a) (shD f g b) = decide (([f a, g a] : List Int) < [f b, g b]) := by
  simp only [D.lt, D.ltL, D.eqv, D.eqvL, List.cons_lt_cons_iff, Bool.and_true, decide_eq_true_eq]
  by_cases h : f a = f b
  · by_cases h2 : g a = g b
    · simp [h, h2]
    · simp [h, h2]
  · simp [h]
theorem minL_sh : ∀ {r : List β} {b : β}, minL (shD f g b) (r.map (shD f g)) = shD f g (minB (fun b => [f b, g b]) b r)
  | [], b => rfl
  | x :: r, b => by
    have ih := minL_sh (r := r) (b := if ([f x, g x] : List Int) < [f b, g b] then x else b)
    show minL (if D.lt (shD f g x) (shD f g b) then shD f g x else shD f g b) (r.map (shD f g)) = shD f g (minB (fun b => [f b, g b]) (if ([f x, g x] : List Int) < [f b, g b] then x else b) r)
    rw [← ih]
    congr 1
    rw [shD_lt]
    simp only [decide_eq_true_eq]
    split <;> rfl
theorem sortOk_sh {l : List β} : sortOk (l.map (shD f g)) = true := by
  unfold sortOk
  have h3 : ((l.map (shD f g)).all fun d => d.okd 50) = true := by
    rw [List.all_eq_true]
    intro d hd
    obtain ⟨b, _, rfl⟩ := List.mem_map.mp hd
    simp
  have h4 : ((l.map (shD f g)).all fun d => (l.map (shD f g)).all fun e => D.alk d e) = true := by
    rw [List.all_eq_true]
    intro d hd
    obtain ⟨b, _, rfl⟩ := List.mem_map.mp hd
    rw [List.all_eq_true]
    intro e he
    obtain ⟨c, _, rfl⟩ := List.mem_map.mp he
    simp [D.alk, D.alkL]
  have h5 : ((l.map (shD f g)).all isTp) = true := by
    rw [List.all_eq_true]
    intro d hd
    obtain ⟨b, _, rfl⟩ := List.mem_map.mp hd
    rfl
  rw [h3, h4, h5]
  simp
theorem dMin_sh {st : Stor} {w : W} {b : β} {r : List β} (h : w.asL st = some ((b :: r).map (shD f g))) : dMin st [w] = some (.d (shD f g (minB (fun b => [f b, g b]) b r))) := by
  have h0 : dMin0 st [w] = none := by
    unfold dMin0
    split
    · rename_i e
      cases e
    · rename_i w' e
      cases e
      rw [h]
      rfl
    · rfl
  unfold dMin
  rw [h0]
  show (w.asL st).bind _ = _
  rw [h]
  simp only [Option.bind_some, List.map_cons]
  have ok := sortOk_sh (f := f) (g := g) (l := b :: r)
  rw [List.map_cons] at ok
  rw [if_pos ok, minL_sh]
end
end DL

namespace DLk41
open PySem L2 DL RW TR
section
variable {k : Nat} {m : Int} {qs : List (Int × Int)}
theorem cut_mid {L : List Int} {a b : Nat} (ha : a ≤ L.length) (hb : b ≤ L.length) : DL.cutD (L.map D.int) (some (a : Int)) (some (b : Int)) = ((L.drop a).take (b - a)).map .int := by
  unfold DL.cutD
  rw [HT.sIx_nat, HT.sIx_nat, List.length_map, Nat.min_eq_left ha, Nat.min_eq_left hb, List.map_take, List.map_drop]
/-- what the scan knows at the places i, j -/
def PInv (F : Int → Int → Bool) (L : List Int) (i j : Nat) : Option (Nat × Nat) → Prop
  | some (a, b) => GoodP F L a b
  | none => ∀ a b, GoodP F L a b → ¬ (a < i ∨ (a = i ∧ b < j))
def sc2 (R : Calls) : DenS := (sIf (bAnd (bV (eOp dIsN (eV 4) (eC .non))) (bAnd (bV (eOp dEq (eOp dIx (eV 2) (eV 7)) (eNeg (eV 6)))) (bV (eOp dEq (eLc (iS (eSl (eV 2) (oSome (eOp dAdd (eV 5) (eC (.int 1)))) (oSome (eV 7)))) (tN 8) (bNot (bV (eCall R 33 (DL.gCons (eV 0) (DL.gCons (eV 6) (DL.gCons (eV 8) DL.gNil)))))) (eV 8)) (eLst aNil))))) (sSet 4 (eTup (aCons (eV 5) (aCons (eV 7) aNil)))) sNext)
def sc1 (R : Calls) : DenS := (sFor (iEnum_ (eV 2)) (tT 2 (tCons (tN 5) (tCons (tN 6) tNil))) (sFor (i2 (eOp dAdd (eV 5) (eC (.int 1))) (eB dLen (DL.gCons (eV 2) DL.gNil))) (tN 7) (sc2 R)))
theorem r_sc2 (hk : 3 ≤ k) (g : GoodL m qs) {L : List Int} (hL : L.length ≤ 1000) {i j : Nat} (hij : i < j) (hj : j < L.length) {P : Option (Nat × Nat)} (hP : PInv (Fs qs) L i j P) (e1 e3 : Option SV) (r : List (Option SV)) (st : Stor) :
    ∃ P', sc2 (run defs k) ([some (.d (mkL m qs)), e1, some (.d (.lst (L.map .int))), e3, some (.d (opD P)), some (.d (.int (i : Int))), some (.d (.int (L.getD i 0))), some (.d (.int (j : Int))), none] ++ r) st = .nx ([some (.d (mkL m qs)), e1, some (.d (.lst (L.map .int))), e3, some (.d (opD P')), some (.d (.int (i : Int))), some (.d (.int (L.getD i 0))), some (.d (.int (j : Int))), none] ++ r) st ∧ PInv (Fs qs) L i (j + 1) P' := by
  have hfree := @r_lfree k m qs hk g
  cases P with
  | some p =>
    obtain ⟨a, b⟩ := p
    exact ⟨some (a, b), by simp [sc2, opD], hP⟩
  | none =>
    have i1 := ixA hj
    have hc := @cut_mid L (i + 1) j (by omega) (by omega)
    rw [show ((i + 1 : Nat) : Int) = (i : Int) + 1 by omega] at hc
    have hbad : ¬ GoodP (Fs qs) L i j → PInv (Fs qs) L i (j + 1) none := fun h a b g1 z => by
      rcases z with z | ⟨rfl, z⟩
      · exact hP a b g1 (.inl z)
      · by_cases e : b = j
        · subst e; exact h g1
        · exact hP a b g1 (.inr ⟨rfl, by omega⟩)
    by_cases h1 : L.getD j 0 = -L.getD i 0
    · obtain ⟨S, hS⟩ : ∃ S, S = (L.drop (i + 1)).take (j - (i + 1)) := ⟨_, rfl⟩
      rw [← hS] at hc
      have hSl : S.length ≤ 1000 := by rw [hS, List.length_take, List.length_drop]; omega
      have hlc : ∀ env : Envi, env = [some (.d (mkL m qs)), e1, some (.d (.lst (L.map .int))), e3, some (.d .non), some (.d (.int (i : Int))), some (.d (.int (L.getD i 0))), some (.d (.int (j : Int))), none] ++ r → lcGo (lcStep (tN 8) (bNot (bV (eCall (run defs k) 33 (DL.gCons (eV 0) (DL.gCons (eV 6) (DL.gCons (eV 8) DL.gNil)))))) (eV 8) env) (S.map .int) st = .ok ((S.filter fun x => !Fs qs (L.getD i 0) x).map .int) st := fun env henv => by
        subst henv
        generalize L.getD i 0 = a at *
        generalize hz : lcGo _ _ _ = z
        exact lcZ_if hz .int S rfl (fun x => !Fs qs a x) .int (fun x _ => by
          have := hfree a x
          cases h : Fs qs a x <;> simp [lcStep_def, this, h])
      have hlc := hlc _ rfl
      have ene : D.eqvL ((S.filter fun x => !Fs qs (L.getD i 0) x).map .int) [] = (S.filter fun x => !Fs qs (L.getD i 0) x).isEmpty := by rw [eqvL_nilE]; cases S.filter fun x => !Fs qs (L.getD i 0) x <;> rfl
      have okl : D.okL 63 ((S.filter fun x => !Fs qs (L.getD i 0) x).map D.int) = true := by simp
      by_cases h2 : S.filter (fun x => !Fs qs (L.getD i 0) x) = []
      · refine ⟨some (i, j), ?_, hij, hj, h1, ?_⟩
        · rw [h2] at hlc
          generalize L.getD i 0 = a at *
          generalize L.getD j 0 = b at *
          simp [sc2, opD, i1, h1, hc, W.seqD]
          simp only [List.cons_append, List.nil_append] at hlc
          simp [hlc, hSl, show S.length ≤ 16777216 by omega]
        · intro x hx
          rw [← hS] at hx
          have := List.filter_eq_nil_iff.mp h2 x hx
          simpa using this
      · refine ⟨none, ?_, hbad fun gp => h2 (List.filter_eq_nil_iff.mpr fun x hx => ?_)⟩
        · have hne : (S.filter fun x => !Fs qs (L.getD i 0) x).isEmpty = false := by
            cases e : S.filter fun x => !Fs qs (L.getD i 0) x with
            | nil => exact absurd e h2
            | cons _ _ => rfl
          rw [hne] at ene
          generalize (S.filter fun x => !Fs qs (L.getD i 0) x).map D.int = G at *
          generalize L.getD i 0 = a at *
          generalize L.getD j 0 = b at *
          simp [sc2, opD, i1, h1, hc, W.seqD]
          simp only [List.cons_append, List.nil_append] at hlc
          simp [hlc, show S.length ≤ 16777216 by omega, okl, ene]
        · have := gp.2.2.2 x (by rw [← hS]; exact hx)
          rw [this]
          exact Bool.false_ne_true
    · refine ⟨none, ?_, hbad fun gp => h1 gp.2.2.1⟩
      generalize L.getD i 0 = a at *
      generalize L.getD j 0 = b at *
      simp [sc2, opD, i1, h1]
theorem PInv.start {F : Int → Int → Bool} {L : List Int} {i : Nat} : ∀ {P : Option (Nat × Nat)}, PInv F L i 0 P → PInv F L i (i + 1 + 0) P
  | some _, h => h
  | none, h => fun a b gp z => by
    rcases z with z | ⟨rfl, z⟩
    · exact h a b gp (.inl z)
    · have := gp.1
      omega
theorem PInv.fin {F : Int → Int → Bool} {L : List Int} {i : Nat} : ∀ {P : Option (Nat × Nat)}, PInv F L i (i + 1 + (L.length - (i + 1))) P → PInv F L (i + 1) 0 P
  | some _, h => h
  | none, h => fun a b gp z => by
    have h2 := gp.2.1
    rcases z with z | ⟨rfl, z⟩
    · by_cases e : a = i
      · exact h a b gp (.inr ⟨e, by omega⟩)
      · exact h a b gp (.inl (by omega))
    · omega
theorem r_sc1 (hk : 3 ≤ k) (g : GoodL m qs) {L : List Int} (hL : L.length ≤ 1000) (e1 e3 : Option SV) (o5 o6 o7 : Option SV) (r : List (Option SV)) (st : Stor) :
    ∃ P p5 p6 p7, sc1 (run defs k) ([some (.d (mkL m qs)), e1, some (.d (.lst (L.map .int))), e3, some (.d .non), o5, o6, o7, none] ++ r) st = .nx ([some (.d (mkL m qs)), e1, some (.d (.lst (L.map .int))), e3, some (.d (opD P)), p5, p6, p7, none] ++ r) st ∧ PInv (Fs qs) L L.length 0 P := by
  unfold sc1
  obtain ⟨B, hB⟩ : ∃ B, B = sc2 (run defs k) := ⟨_, rfl⟩
  have hsc := fun i j hij hj P hP => @r_sc2 k m qs hk g L hL i j hij hj P hP e1 e3 r
  rw [← hB] at hsc ⊢
  have en := enumD (mk := D.int) (l := L) 0
  simp [en, -List.getD_eq_getElem?_getD]
  generalize hz : forGo _ _ _ _ _ = z
  obtain ⟨R, hR⟩ : ∃ R : Nat → Envi → Stor → Prop, R = fun i env st' => ∃ (P : Option (Nat × Nat)) (o5 o6 o7 : Option SV), env = [some (.d (mkL m qs)), e1, some (.d (.lst (L.map .int))), e3, some (.d (opD P)), o5, o6, o7, none] ++ r ∧ st' = st ∧ PInv (Fs qs) L i 0 P := ⟨_, rfl⟩
  obtain ⟨env', st', rfl, h⟩ := forZi hz (fun p : Nat => D.tup [.int (p : Int), .int (L.getD p 0)]) (List.range L.length) rfl R (by rw [hR]; exact ⟨none, o5, o6, o7, rfl, rfl, fun a b _ z => by omega⟩) (by
    intro i hi env st' h
    rw [hR] at h
    obtain ⟨P, o5, o6, o7, rfl, rfl, hP⟩ := h
    have hi : i < L.length := by simpa using hi
    rw [List.getElem_range]
    have hsc := hsc i
    generalize hx : L.getD i 0 = x at *
    refine ⟨[some (.d (mkL m qs)), e1, some (.d (.lst (L.map .int))), e3, some (.d (opD P)), some (.d (.int (i : Int))), some (.d (.int x)), o7, none] ++ r, by simp, ?_⟩
    simp
    rw [rng2_int (by omega) (by omega), show ((L.length : Int) - ((i : Int) + 1)).toNat = L.length - (i + 1) by omega]
    simp only [then_ok, bind_ok]
    generalize hz : forGo _ _ _ _ _ = z
    obtain ⟨R1, hR1⟩ : ∃ R : Nat → Envi → Stor → Prop, R = fun s env st'' => ∃ (P : Option (Nat × Nat)) (o7 : Option SV), env = [some (.d (mkL m qs)), e1, some (.d (.lst (L.map .int))), e3, some (.d (opD P)), some (.d (.int (i : Int))), some (.d (.int x)), o7, none] ++ r ∧ st'' = st' ∧ PInv (Fs qs) L i (i + 1 + s) P := ⟨_, rfl⟩
    obtain ⟨env', st'', rfl, h1⟩ := forZi hz (fun s : Nat => D.int ((i : Int) + 1 + (s : Int))) (List.range (L.length - (i + 1))) rfl R1 (by
      rw [hR1]
      exact ⟨P, o7, rfl, rfl, hP.start⟩) (by
      intro s hs env st'' h
      rw [hR1] at h
      obtain ⟨P, o7, rfl, rfl, hP⟩ := h
      have hs : s < L.length - (i + 1) := by simpa using hs
      rw [List.getElem_range]
      obtain ⟨P', e, hP'⟩ := hsc (i + 1 + s) (by omega) (by omega) P hP st''
      rw [show ((i + 1 + s : Nat) : Int) = (i : Int) + 1 + (s : Int) by omega] at e
      refine ⟨_, by simp, _, _, e, ?_⟩
      rw [hR1]
      exact ⟨P', _, rfl, rfl, hP'⟩)
    rw [hR1] at h1
    obtain ⟨P', o7', rfl, rfl, hP'⟩ := h1
    refine ⟨_, _, rfl, ?_⟩
    rw [hR]
    rw [List.length_range] at hP'
    exact ⟨P', _, _, _, rfl, rfl, hP'.fin⟩)
  rw [hR] at h
  obtain ⟨P, o5, o6, o7, rfl, rfl, hP⟩ := h
  rw [List.length_range] at hP
  exact ⟨P, ⟨o5, o6, o7, rfl⟩, hP⟩
end
end DLk41

namespace DLk41
open PySem L2 DL RW TR
section
variable {k : Nat} {m : Int} {qs : List (Int × Int)}
theorem goodP_irr {F : Int → Int → Bool} {L : List Int} {i j : Nat} (h : GoodP F L i j) : ¬ Irr F L := fun hi => by
  obtain ⟨h1, h2, h3, h4⟩ := h
  have e := place_split h1 h2
  rw [h3] at e
  generalize L.getD i 0 = a at *
  generalize (L.drop (i + 1)).take (j - (i + 1)) = B at *
  generalize L.take i = A at *
  generalize L.drop (j + 1) = C at *
  refine hi (A ++ B) a C ?_
  rw [e]
  have h5 := (Alike.refl (F := F) A).app (through (v := -a :: C) h4)
  simpa using h5
def qk1 (R : Calls) : DenS := (sSeq (sSet 4 (eC .non)) (sSeq (sc1 R) (sSet 2 (eIf (bV (eOp dNotN (eV 4) (eC .non))) (eLc (iEnum_ (eV 2)) (tT 2 (tCons (tN 9) (tCons (tN 6) tNil))) (bV (eOp dNotIn (eV 9) (eV 4))) (eV 6)) (eV 2)))))
theorem r_qk1 (hk : 3 ≤ k) (g : GoodL m qs) {w L : List Int} {i : Nat} (hw : w.length ≤ 1000) (he : Eqv (Fs qs) w L) (hl : L.length ≤ w.length) (hi : Irr (Fs qs) L ∨ L.length + 2 * i ≤ w.length) (hm : ∀ x ∈ L, x ∈ w) (e1 e3 o4 o5 o6 o7 : Option SV) (st : Stor) :
    ∃ L' p4 p5 p6 p7, qk1 (run defs k) [some (.d (mkL m qs)), e1, some (.d (.lst (L.map .int))), e3, o4, o5, o6, o7, none, none, none, none, none] st = .nx [some (.d (mkL m qs)), e1, some (.d (.lst (L'.map .int))), e3, p4, p5, p6, p7, none, none, none, none, none] st ∧ Eqv (Fs qs) w L' ∧ L'.length ≤ w.length ∧ (Irr (Fs qs) L' ∨ L'.length + 2 * (i + 1) ≤ w.length) ∧ ∀ x ∈ L', x ∈ w := by
  have t := tfQ g
  obtain ⟨P, p5, p6, p7, hsc, hP⟩ := @r_sc1 k m qs hk g L (by omega) e1 e3 o5 o6 o7 [none, none, none, none] st
  simp only [List.cons_append, List.nil_append] at hsc
  unfold qk1
  cases P with
  | none =>
    have hirr : Irr (Fs qs) L := goodP_none t fun a b gp => hP a b gp (.inl (by have := gp.1; have := gp.2.1; omega))
    refine ⟨L, some (.d .non), p5, p6, p7, ?_, he, hl, .inl hirr, hm⟩
    simp [hsc, opD]
  | some p =>
    obtain ⟨a, b⟩ := p
    have gp : GoodP (Fs qs) L a b := hP
    have hcl := cutp_len gp.1 gp.2.1
    refine ⟨cutp L a b, some (.d (opD (some (a, b)))), p5, p6, p7, ?_, he.trans (goodP_eqv t gp), by omega, .inr ?_, fun x hx => hm x (mem_cutp hx)⟩
    · have en := enumD (mk := D.int) (l := L) 0
      have hcut := cut2p L a b gp.1
      simp [hsc, opD, en]
      generalize hz : lcGo _ _ _ = z
      have := lcZ_if hz (fun p : Nat => D.tup [.int (p : Int), .int (L.getD p 0)]) (List.range L.length) (by simp) (fun p => decide (p ≠ a) && decide (p ≠ b)) (fun p => .int (L.getD p 0)) (fun p hp => by
        generalize L.getD p 0 = y
        by_cases h1 : p = a
        · simp [lcStep_def, h1]
        · by_cases h2 : p = b
          · simp [lcStep_def, h1, h2]
          · have h3 : ¬ (a : Int) = (p : Int) := fun z => h1 (by omega)
            have h4 : ¬ (b : Int) = (p : Int) := fun z => h2 (by omega)
            simp [lcStep_def, h1, h2, h3, h4])
      subst this
      have e3 : (List.filter (fun p => decide (p ≠ a) && decide (p ≠ b)) (List.range L.length)).map (fun p => D.int (L.getD p 0)) = (cutp L a b).map .int := by
        rw [← hcut, List.map_map]
        rfl
      rw [e3]
      simp [show L.length ≤ 16777216 by omega]
    · rcases hi with h | h
      · exact absurd h (goodP_irr gp)
      · omega
def qk2 (R : Calls) : DenS := (sSeq (sSet 11 (eLc (iEnum_ (eV 2)) (tT 2 (tCons (tN 5) (tCons (tN 6) tNil))) (bV (eOp dEq (eLc (iS (eSl (eV 2) oNone (oSome (eV 5)))) (tN 8) (bNot (bV (eCall R 33 (DL.gCons (eV 0) (DL.gCons (eV 6) (DL.gCons (eV 8) DL.gNil)))))) (eV 8)) (eLst aNil))) (eV 5))) (sSeq (sSet 12 (eOp dIx (eB dMin (DL.gCons (eLc (iS (eV 11)) (tN 5) bYes (eTup (aCons (eCall R 35 (DL.gCons (eTup (aCons (eOp dIx (eV 2) (eV 5)) aNil)) DL.gNil)) (aCons (eV 5) aNil)))) DL.gNil)) (eC (.int 1)))) (sSeq (sApp 10 (eOp dIx (eV 2) (eV 12))) (sSet 2 (eOp dAdd (eSl (eV 2) oNone (oSome (eV 12))) (eSl (eV 2) (oSome (eOp dAdd (eV 12) (eC (.int 1)))) oNone))))))
theorem r_qk2 (hk : 6 ≤ k) (g : GoodL m qs) {v ms : List Int} (hv : v ≠ []) (hl : v.length ≤ 1000) (hms : ms.length ≤ 1000) (hnz : ∀ x ∈ v, x ≠ 0) (e1 e3 e4 e5 e6 e7 o11 o12 : Option SV) (st : Stor) :
    ∃ q p11 p12, qk2 (run defs k) [some (.d (mkL m qs)), e1, some (.d (.lst (v.map .int))), e3, e4, e5, e6, e7, none, none, some (.r st.length), o11, o12] (st ++ [.lst (ms.map .int)]) = .nx [some (.d (mkL m qs)), e1, some (.d (.lst ((v.take q ++ v.drop (q + 1)).map .int))), e3, e4, e5, e6, e7, none, none, some (.r st.length), p11, p12] (st ++ [.lst ((ms ++ [v.getD q 0]).map .int)]) ∧ q < v.length ∧ ordT (Fs qs) v = v.getD q 0 :: ordT (Fs qs) (v.take q ++ v.drop (q + 1)) := by
  have t := tfQ g
  have hfree := @r_lfree k m qs (by omega) g
  have en := enumD (mk := D.int) (l := v) 0
  obtain ⟨a, r, hr⟩ : ∃ a r, fpl (Fs qs) v = a :: r := by
    cases h : fpl (Fs qs) v with
    | nil => have := fpl_ne (F := Fs qs) hv; rw [h] at this; cases this
    | cons a r => exact ⟨a, r, rfl⟩
  obtain ⟨f, hf⟩ : ∃ f : Nat → Int, f = fun j => 2 * ((v.getD j 0).natAbs : Int) - if v.getD j 0 > 0 then 1 else 0 := ⟨_, rfl⟩
  have hkap : ∀ j, j < v.length → f j = kap (v.getD j 0) - 1 := fun j hj => by
    rw [hf]
    have h0 := hnz _ (RW.getD_mem hj)
    dsimp only
    generalize v.getD j 0 = x at *
    unfold kap
    split <;> split <;> omega
  have hsp := minB_spec (f := fun j : Nat => ([f j, (j : Int)] : List Int)) (r := r) (b := a)
  obtain ⟨q, hq⟩ : ∃ q, q = minB (fun j : Nat => ([f j, (j : Int)] : List Int)) a r := ⟨_, rfl⟩
  rw [← hq, ← hr] at hsp
  have hq1 := hsp.1
  have hqn := (mem_fpl.mp hq1).1
  have hord := ordT_place t hq1 (fun j hj z => hsp.2 j hj (by
    have hjn := (mem_fpl.mp hj).1
    rw [hkap j hjn, hkap q hqn]
    rw [List.cons_lt_cons_iff] at z ⊢
    rcases z with z | ⟨z1, z2⟩
    · exact .inl (by omega)
    · exact .inr ⟨by omega, z2⟩))
  have hmin : ∀ st, dMin st [.n ((fpl (Fs qs) v).map (shD f fun j => (j : Int)))] = some (.d (.tup [.tup [.int (f q)], .int (q : Int)])) := fun st => by
    have := dMin_sh (st := st) (w := .n ((fpl (Fs qs) v).map (shD f fun j => (j : Int)))) (f := f) (g := fun j : Nat => (j : Int)) (b := a) (r := r) (by rw [hr]; rfl)
    rw [this, ← hq]
  refine ⟨q, some (.d (.lst ((fpl (Fs qs) v).map fun p : Nat => D.int (p : Int)))), some (.d (.int (q : Int))), ?_, hqn, hord⟩
  obtain ⟨V, hV⟩ : ∃ V, V = (v.take q ++ v.drop (q + 1)).map D.int := ⟨_, rfl⟩
  obtain ⟨M, hM⟩ : ∃ M, M = (ms ++ [v.getD q 0]).map D.int := ⟨_, rfl⟩
  rw [← hV, ← hM]
  unfold qk2
  simp [en, -List.getD_eq_getElem?_getD]
  generalize hz : lcGo _ _ _ = z
  have := lcZ_if hz (fun p : Nat => D.tup [.int (p : Int), .int (v.getD p 0)]) (List.range v.length) (by simp) (fun i => (v.take i).all fun o => Fs qs (v.getD i 0) o) (fun p => .int (p : Int)) (fun p hp => by
    have hp : p < v.length := by simpa using hp
    generalize v.getD p 0 = y
    have hc := cut_to (l := v) (n := p)
    have hS : (v.take p).length ≤ 1000 := by rw [List.length_take]; omega
    generalize v.take p = S at *
    obtain ⟨b, hb⟩ : ∃ b, b = S.all fun o => Fs qs y o := ⟨_, rfl⟩
    rw [← hb]
    simp [lcStep_def, hc, W.seqD]
    generalize hz : lcGo _ _ _ = z
    have := lcZ_if hz .int S rfl (fun x => !Fs qs y x) .int (fun x _ => by
      have := hfree y x
      cases h : Fs qs y x <;> simp [lcStep_def, this, h])
    subst this
    have ene : D.eqvL ((S.filter fun x => !Fs qs y x).map .int) [] = (S.filter fun x => !Fs qs y x).isEmpty := by rw [eqvL_nilE]; cases S.filter fun x => !Fs qs y x <;> rfl
    have e2 : (S.filter fun x => !Fs qs y x).isEmpty = S.all fun o => Fs qs y o := by
      rw [Bool.eq_iff_iff, List.isEmpty_iff, List.filter_eq_nil_iff, List.all_eq_true]
      exact ⟨fun h x hx => by simpa using h x hx, fun h x hx => by simpa using h x hx⟩
    rw [e2, ← hb] at ene
    have okl : D.okL 63 ((S.filter fun x => !Fs qs y x).map D.int) = true := by simp
    generalize (S.filter fun x => !Fs qs y x).map D.int = G at *
    cases b <;> simp [show S.length ≤ 16777216 by omega, okl, ene])
  subst this
  have hfp : (List.range v.length).filter (fun i => (v.take i).all fun o => Fs qs (v.getD i 0) o) = fpl (Fs qs) v := rfl
  rw [hfp]
  have hfl := fpl_le (F := Fs qs) (v := v)
  simp [show v.length ≤ 16777216 by omega, W.seqD, show (fpl (Fs qs) v).length ≤ 16777216 by omega, -List.getD_eq_getElem?_getD]
  generalize hz : lcGo _ _ _ = z
  have := lcZ_map hz (fun p : Nat => D.int (p : Int)) (fpl (Fs qs) v) rfl (shD f fun j => (j : Int)) (fun j hj => by
    have e1 := ixA (mem_fpl.mp hj).1
    have ho := @r_lorder k (by omega) [v.getD j 0] (by simp)
    have e2 : tp (ordl [v.getD j 0]) = .tup [.int (f j)] := by rw [hf]; rfl
    rw [e2] at ho
    simp only [tp, List.map_cons, List.map_nil] at ho
    generalize v.getD j 0 = x at *
    simp [lcStep_def, e1, ho])
  subst this
  have hmin := fun st => hmin st
  have eq := ixA hqn
  generalize (fpl (Fs qs) v).map (shD f fun j => (j : Int)) = G at *
  generalize v.getD q 0 = x at *
  simp [hmin, eq, cut_to, cut_from1, sApp, show ms.length < 16777216 by omega, show min q v.length + (v.length - (q + 1)) ≤ 16777216 by omega, hV, hM, -List.map_drop, -List.map_take]
  rw [List.map_take]
theorem r_quick (hk : 10 ≤ k) (g : GoodL m qs) {w : List Int} (hw : w.length ≤ 1000) (hnz : ∀ x ∈ w, x ≠ 0) (st : Stor) : run defs k 43 [.d (mkL m qs), .d (tp w)] st = .ok (.d (tp (leastT (Fs qs) w))) st := by
  have t := tfQ g
  obtain ⟨Q1, hQ1⟩ : ∃ Q, Q = qk1 (run defs (k - 1)) := ⟨_, rfl⟩
  obtain ⟨Q2, hQ2⟩ : ∃ Q, Q = qk2 (run defs (k - 1)) := ⟨_, rfl⟩
  have hb : b__law_quick (run defs (k - 1)) (run defs (k - 3)) = (sSeq (sSet 2 (eB dList (DL.gCons (eV 1) DL.gNil))) (sSeq (sFor (i1 (eB dLen (DL.gCons (eV 1) DL.gNil))) (tN 3) Q1) (sSeq (sSetM 10 (eLst aNil)) (sSeq (sFor (i1 (eB dLen (DL.gCons (eV 2) DL.gNil))) (tN 3) Q2) (sRet (eB dTuple (DL.gCons (eV 10) DL.gNil))))))) := by
    rw [hQ1, hQ2]
    rfl
  rw [u__law_quick (by omega), hb]
  simp [tp, show w.length ≤ 16777216 by omega]
  rw [rng1_int (by omega), Int.toNat_natCast, rangeD_0]
  simp only [then_ok, bind_ok]
  generalize hz : forGo _ _ _ _ _ = z
  obtain ⟨R, hR⟩ : ∃ R : Nat → Envi → Stor → Prop, R = fun i env st' => ∃ (L : List Int) (o3 o4 o5 o6 o7 : Option SV), env = [some (.d (mkL m qs)), some (.d (.tup (w.map .int))), some (.d (.lst (L.map .int))), o3, o4, o5, o6, o7, none, none, none, none, none] ∧ st' = st ∧ Eqv (Fs qs) w L ∧ L.length ≤ w.length ∧ (Irr (Fs qs) L ∨ L.length + 2 * i ≤ w.length) ∧ ∀ x ∈ L, x ∈ w := ⟨_, rfl⟩
  obtain ⟨env', st', rfl, h⟩ := forZi hz (fun (i : Nat) => D.int (i : Int)) (List.range w.length) rfl R (by rw [hR]; exact ⟨w, none, none, none, none, none, rfl, rfl, .refl _, Nat.le_refl _, .inr (by omega), fun x hx => hx⟩) (by
    intro i hi env st' h
    rw [hR] at h
    obtain ⟨L, o3, o4, o5, o6, o7, rfl, rfl, h1, h2, h3, h4⟩ := h
    obtain ⟨L', p4, p5, p6, p7, e, g1, g2, g3, g4⟩ := @r_qk1 (k - 1) m qs (by omega) g w L i hw h1 h2 h3 h4 (some (.d (.tup (w.map .int)))) (some (.d (.int (i : Int)))) o4 o5 o6 o7 st'
    rw [List.getElem_range, hQ1]
    refine ⟨_, by simp, _, _, e, ?_⟩
    rw [hR]
    exact ⟨L', _, p4, p5, p6, p7, rfl, rfl, g1, g2, g3, g4⟩)
  rw [hR] at h
  obtain ⟨L, o3, o4, o5, o6, o7, rfl, rfl, h1, h2, h3, h4⟩ := h
  rw [List.length_range] at h3
  have hirr : Irr (Fs qs) L := by
    rcases h3 with h | h
    · exact h
    · have : L.length = 0 := by omega
      rw [List.length_eq_zero_iff.mp this]
      exact irr_nil
  have hE : leastT (Fs qs) w = ordT (Fs qs) L := by rw [leastT_eqv t h1, leastT_irr t hirr]
  rw [hE]
  simp
  rw [rng1_int (by omega), Int.toNat_natCast, rangeD_0]
  simp only [then_ok, bind_ok]
  generalize hz : forGo _ _ _ _ _ = z
  obtain ⟨R1, hR1⟩ : ∃ R : Nat → Envi → Stor → Prop, R = fun i env st'' => ∃ (ms v : List Int) (o3 o11 o12 : Option SV), env = [some (.d (mkL m qs)), some (.d (.tup (w.map .int))), some (.d (.lst (v.map .int))), o3, o4, o5, o6, o7, none, none, some (.r st'.length), o11, o12] ∧ st'' = st' ++ [.lst (ms.map .int)] ∧ ordT (Fs qs) L = ms ++ ordT (Fs qs) v ∧ v.length + i = L.length ∧ ms.length = i ∧ ∀ x ∈ v, x ∈ w := ⟨_, rfl⟩
  obtain ⟨env', st'', rfl, hRe⟩ := forZi hz (fun i : Nat => D.int (i : Int)) (List.range L.length) rfl R1 (by rw [hR1]; exact ⟨[], L, o3, none, none, rfl, rfl, by simp, by simp, rfl, h4⟩) (by
    intro i hi' env st'' h
    rw [hR1] at h
    obtain ⟨ms, v, o3, o11, o12, rfl, rfl, he, hl, hv, hm⟩ := h
    have hi' : i < L.length := by simpa using hi'
    have hne : v ≠ [] := by intro e; rw [e] at hl; simp at hl; omega
    obtain ⟨q, p11, p12, e, hq, hord⟩ := @r_qk2 (k - 1) m qs (by omega) g v ms hne (by omega) (by omega) (fun x hx => hnz x (hm x hx)) (some (.d (.tup (w.map .int)))) (some (.d (.int (i : Int)))) o4 o5 o6 o7 o11 o12 st'
    have hc := TR.cut_len hq
    rw [List.getElem_range, hQ2]
    refine ⟨_, by simp, _, _, e, ?_⟩
    rw [hR1]
    refine ⟨ms ++ [v.getD q 0], v.take q ++ v.drop (q + 1), _, _, _, rfl, rfl, by rw [he, hord]; simp, by omega, by simp; omega, fun x hx => hm x ?_⟩
    rcases List.mem_append.mp hx with z | z
    · exact List.mem_of_mem_take z
    · exact List.mem_of_mem_drop z)
  rw [hR1] at hRe
  obtain ⟨ms, v, o3, o11, o12, rfl, rfl, he, hl, hv, hm⟩ := hRe
  simp only [List.length_range] at hl
  have h0 : v = [] := List.length_eq_zero_iff.mp (by omega)
  subst h0
  rw [ordT_nil, List.append_nil] at he
  rw [he]
  simp [dTuple, W.asL]
end
end DLk41

namespace DLk41
open PySem L2 DL RW TR
section
variable {k : Nat} {m : Int} {qs : List (Int × Int)}
def pr2 (p : List Int × List Int) : D := .tup [tp p.1, tp p.2]
def wr2 (R : Calls) : DenS := (sSeq (sSet 10 (eAnd (eCall R 41 (DL.gCons (eV 1) (DL.gCons (eOp dIx (eV 9) (eC (.int 1))) DL.gNil))) (eOp dEq (eCall R 43 (DL.gCons (eV 1) (DL.gCons (eOp dAdd (eOp dAdd (eOp dIx (eV 9) (eC (.int 0))) (eOp dIx (eV 9) (eC (.int 1)))) (eCall R 42 (DL.gCons (eOp dIx (eV 9) (eC (.int 0))) DL.gNil))) DL.gNil))) (eCall R 37 (DL.gCons (eV 1) (DL.gCons (eV 2) DL.gNil)))))) (sIf (bV (eOp dNe (eCall R 24 (DL.gCons (eV 1) (DL.gCons (eV 2) (DL.gCons (eV 9) DL.gNil)))) (eV 10))) (sRet (eC (.bl false))) sNext))
theorem r_wr2 (hk : 45 ≤ k) (g : GoodL m qs) {w : List Int} (hw : Wt m w) (hw7 : w.length ≤ 7) {p : List Int × List Int} (h1 : Wt m p.1) (h2 : Wt m p.2) (h7 : p.2.length ≤ 7) (e0 e3 e4 e5 e6 e7 e8 o10 : Option SV) (r : List (Option SV)) (st : Stor) :
    ∃ p10, wr2 (run defs k) ([e0, some (.d (mkL m qs)), some (.d (tp w)), e3, e4, e5, e6, e7, e8, some (.d (pr2 p)), o10] ++ r) st = .nx ([e0, some (.d (mkL m qs)), some (.d (tp w)), e3, e4, e5, e6, e7, e8, some (.d (pr2 p)), p10] ++ r) st := by
  obtain ⟨a, b⟩ := p
  dsimp only at h1 h2 h7
  have la := h1.len
  have f41 := @r_lround k m qs (by omega) g b h7 h2.ne
  have f42 := @r_lback k (by omega) a (by omega)
  have a1 := @add_tp a b (by omega)
  have a2 := @add_tp (a ++ b) (bkw a) (by rw [List.length_append, bkw_len]; omega)
  have hwz : ∀ x ∈ a ++ b ++ bkw a, x ≠ 0 := fun x hx => by
    rcases List.mem_append.mp hx with z | z
    · rcases List.mem_append.mp z with z | z
      · exact h1.ne x z
      · exact h2.ne x z
    · exact h1.bkw.ne x z
  have f43 := @r_quick k m qs (by omega) g (a ++ b ++ bkw a) (by rw [List.length_append, List.length_append, bkw_len]; omega) hwz
  have f37 := @r_lleast k m qs (by omega) g w hw7 hw.ne
  have f24 := @r_is_round_of k m qs (by omega) g w a b hw h1 h2
  have i0 : atI [tp a, tp b] 0 = some (tp a) := rfl
  have i1 : atI [tp a, tp b] 1 = some (tp b) := rfl
  have eq : ∀ (u v : List Int) st, dEq st (.d (tp u)) (.d (tp v)) = some (.d (.bl (decide (u = v)))) := fun u v st => by simp [okd_tp, tp_eqv]
  have neb : ∀ (x : Bool) st, dNe st (.d (.bl x)) (.d (.bl x)) = some (.d (.bl false)) := fun x st => by cases x <;> simp
  refine ⟨some (.d (.bl (rd (Fs qs) b && decide (leastT (Fs qs) (a ++ b ++ bkw a) = leastT (Fs qs) w)))), ?_⟩
  cases hr : rd (Fs qs) b with
  | false =>
    rw [hr] at f41 f24
    simp only [Bool.false_and] at f24
    simp [wr2, pr2, i0, i1, f41, f24]
  | true =>
    rw [hr] at f41 f24
    simp only [Bool.true_and] at f24
    simp only [Bool.true_and]
    have eq2 := eq (leastT (Fs qs) (a ++ b ++ bkw a)) (leastT (Fs qs) w)
    generalize decide (leastT (Fs qs) (a ++ b ++ bkw a) = leastT (Fs qs) w) = c at *
    generalize leastT (Fs qs) (a ++ b ++ bkw a) = U at *
    have nec := neb c
    clear neb eq
    simp [wr2, pr2, i0, i1, f41, f42, a1, a2, f43, f37, eq2, f24, nec, -List.append_assoc]
/-- the odd values -/
def oddL (m : Int) (A B : List Int) : List D := [.non, .tup [], .int 0, .lst [tp A, tp B], .tup [tp A], .tup [tp A, tp B, .tup []], .tup [.lst (A.map .int), tp B], .tup [tp A, .lst (B.map .int)], .tup [tp A, .non], .tup [.tup [.int 0], tp B], .tup [tp A, .tup [.int (m + 1)]], .tup [.tup (A.map .int ++ [.bl true]), tp B]]
theorem odd_bad (m1 : 0 ≤ m) {A B : List Int} : ∀ d ∈ oddL m A B, goodV m d = false ∧ d.okd 8 = true := by
  have e1 : isTr m (.lst (A.map .int)) = false := rfl
  have e2 : isTr m (.lst (B.map .int)) = false := rfl
  have e3 : isTr m (.tup [.int 0]) = false := by simp [isTr, isS]
  have e4 : isTr m (.tup [.int (m + 1)]) = false := by
    have : ¬ ((m + 1).natAbs : Int) ≤ m := by omega
    simp [isTr, isS, this]
  have e5 : isTr m (.tup (A.map .int ++ [.bl true])) = false := by simp [isTr, isS]
  have e6 : isTr m .non = false := rfl
  have t2 : ∀ a b : D, isT_ (.tup [a, b]) 2 2 = true := fun _ _ => rfl
  intro d hd
  simp only [oddL, List.mem_cons, List.not_mem_nil, or_false] at hd
  rcases hd with rfl | rfl | rfl | rfl | rfl | rfl | rfl | rfl | rfl | rfl | rfl | rfl
  · exact ⟨rfl, rfl⟩
  · exact ⟨rfl, rfl⟩
  · exact ⟨rfl, rfl⟩
  · exact ⟨rfl, by simp [D.okd, D.okL, okd_tp]⟩
  · exact ⟨rfl, by simp [D.okd, D.okL, okd_tp]⟩
  · exact ⟨rfl, by simp [D.okd, D.okL, okd_tp]⟩
  · exact ⟨by simp [goodV, t2, e1], by simp [D.okd, D.okL, okd_tp]⟩
  · exact ⟨by simp [goodV, t2, e2], by simp [D.okd, D.okL, okd_tp]⟩
  · exact ⟨by simp [goodV, t2, e6], by simp [D.okd, D.okL, okd_tp]⟩
  · exact ⟨by simp [goodV, t2, e3], by simp [D.okd, D.okL, okd_tp]⟩
  · exact ⟨by simp [goodV, t2, e4], by simp [D.okd, D.okL, okd_tp]⟩
  · refine ⟨by simp [goodV, t2, e5], ?_⟩
    have : D.okL 6 (A.map .int ++ [.bl true]) = true := by
      rw [okL_iff]
      intro d hd
      rcases List.mem_append.mp hd with z | z
      · obtain ⟨x, _, rfl⟩ := List.mem_map.mp z
        rfl
      · rw [List.mem_singleton.mp z]; rfl
    simp [D.okd, D.okL, okd_tp, this]
end
end DLk41

namespace DLk41
open PySem L2 DL RW TR
section
variable {k : Nat} {m : Int} {qs : List (Int × Int)}
theorem fit_tp {w : List Int} (h : w.length ≤ 1000) : (tp w).fit = true := by
  have : ∀ l : List Int, D.fitL (l.map .int) = true := fun l => by
    induction l with
    | nil => rfl
    | cons a l ih => simp [D.fitL, D.fit, ih]
  simp [tp, D.fit, this]
  omega
theorem ix0 (st : Stor) : dIx st (.d (mkL m qs)) (.d (.int 0)) = some (.d (.int m)) := by simp [mkL]
theorem like2 (hk : 12 ≤ k) {a b : D} (ha : a.okd 5 = true) (hb : b.okd 5 = true) (fa : a.fit = true) (fb : b.fit = true) (st : Stor) : run defs k 30 [.d (.lst [a, b]), .d (.lst [a, b])] st = .ok (.d (.bl true)) st :=
  r_like (n := 6) st (by omega) (by simp [D.okd, D.okL, ha, hb]) (by simp [D.fit, D.fitL, fa, fb]) (by omega)
theorem rl_len {F : Int → Int → Bool} (t : Tf F) {w A B : List Int} {q : Nat} (hI : RI_ F w A B) (hs : ∀ M, ¬ Strip F B M) (h : RL F (red F w) q) : B.length = q := RL.uniq t _ (Nat.le_refl _) (.stop hs) (hI.rl q h)
theorem r_word_right (hk : 50 ≤ k) (g : GoodL m qs) {w : List Int} (hw : Wt m w) (hw7 : w.length ≤ 7) (h6 : ∀ q, RL (Fs qs) (red (Fs qs) w) q → q ≤ 6) {st : Stor} (hc : Cup st) : ∃ st', run defs k 44 [.r 0, .d (mkL m qs), .d (tp w)] st = .ok (.d (.bl true)) st' ∧ Cup st' := by
  have t := tfQ g
  have m1 := g.m1
  have m8 := g.m8
  obtain ⟨A, B, f23, f25, hI, hs⟩ := @r_round (k - 1) m qs (by omega) g w hw st
  have hIl := hI.len
  have wA : Wt m A := hw.sub hI.ma (by omega)
  have wB : Wt m B := hw.sub hI.mb (by omega)
  obtain ⟨q, hq⟩ := RL.ex (F := Fs qs) _ (red (Fs qs) w) (Nat.le_refl _)
  have hBq := rl_len t hI hs hq
  have hq6 := h6 q hq
  have hrdB : rd (Fs qs) B = true := (rd_iff t wB.ne).mpr ⟨hI.irr, hs⟩
  have f22 := @r_is_round (k - 1) m qs (by omega) g w hw
  have f41 := @r_lround (k - 1) m qs (by omega) g w hw7 hw.ne
  have f41B := @r_lround (k - 1) m qs (by omega) g B (by omega) wB.ne
  have f42 := @r_lback (k - 1) (by omega) A (by omega)
  have a1 := @add_tp A B (by omega)
  have a2 := @add_tp (A ++ B) (bkw A) (by rw [List.length_append, bkw_len]; omega)
  have hz3 : ∀ x ∈ A ++ B ++ bkw A, x ≠ 0 := fun x hx => by
    rcases List.mem_append.mp hx with z | z
    · rcases List.mem_append.mp z with z | z
      · exact wA.ne x z
      · exact wB.ne x z
    · exact wA.bkw.ne x z
  have f43 := @r_quick (k - 1) m qs (by omega) g (A ++ B ++ bkw A) (by rw [List.length_append, List.length_append, bkw_len]; omega) hz3
  have f37 := @r_lleast (k - 1) m qs (by omega) g w hw7 hw.ne
  have f24 := @r_is_round_of (k - 1) m qs (by omega) g w A B hw wA wB
  have hE := leastT_eqv t hI.eqv
  rw [← hE] at f43
  rw [← hE, hrdB, decide_eq_true rfl] at f24
  rw [hrdB] at f41B
  have like := @like2 (k - 1) (by omega) (.bl true) (.int (B.length : Int)) rfl (by simp) rfl rfl
  obtain ⟨u, st1, f32, hu, hul, c1⟩ := r_lword (k := k - 1) (by omega) g (most := 2) (by decide) (by decide) hc
  have wu : Wt m u := ⟨hu, by omega⟩
  have wku := wu.bkw
  have hkl := bkw_len u
  have f42u := @r_lback (k - 1) (by omega) u (by omega)
  have a3 := @add_tp u w (by omega)
  have a4 := @add_tp (u ++ w) (bkw u) (by rw [List.length_append]; omega)
  have wf : Wt m (u ++ w ++ bkw u) := (wu.app hw (by omega)).app wku (by rw [List.length_append]; omega)
  obtain ⟨A2, B2, _, g25, hI2, hs2⟩ := @r_round (k - 1) m qs (by omega) g _ wf st1
  have hB2 : B2.length = B.length := by rw [rl_len t hI2 hs2 (red_conj t hq u), hBq]
  rw [hB2] at g25
  have wuA := wu.app wA (by omega)
  have g24 := @r_is_round_of (k - 1) m qs (by omega) g _ (u ++ A) B wf wuA wB
  have hE2 : leastT (Fs qs) (u ++ A ++ B ++ bkw (u ++ A)) = leastT (Fs qs) (u ++ w ++ bkw u) := by
    have h1 := eqv_app_r t (eqv_app_l t u (hI.eqv.symm t)) (bkw u)
    have := leastT_eqv t h1
    rw [← this, bkw_app]
    simp
  rw [hE2, hrdB, decide_eq_true rfl] at g24
  have a5 := @add_tp u A (by omega)
  have f42w := @r_lback (k - 1) (by omega) w (by omega)
  obtain ⟨A3, B3, _, k25, hI3, hs3⟩ := @r_round (k - 1) m qs (by omega) g _ hw.bkw st1
  have hB3 : B3.length = B.length := by rw [rl_len t hI3 hs3 (red_back t hq), hBq]
  rw [hB3] at k25
  obtain ⟨p, st2, f27, p1, p2, c2⟩ := r_roll (k := k - 1) (by omega) (many := m) (by omega) (by omega) c1
  refine ⟨st2, ?_, c2⟩
  have ne : ∀ (w : List Int) st, dNe st (.d (tp w)) (.d (tp w)) = some (.d (.bl false)) := fun w st => by simp [okd_tp, tp_eqv]
  have neb : ∀ (x : Bool) st, dNe st (.d (.bl x)) (.d (.bl x)) = some (.d (.bl false)) := fun x st => by cases x <;> simp
  have a7 : ∀ st (v : List Int), dLen st [.d (tp v)] = some (.d (.int (v.length : Int))) := fun st v => by simp [tp]
  have hcup := cup_take hc c2
  have ist : ∀ (v : List Int) st, isT "tuple" st (.d (tp v)) = some true := fun v st => by simp [tp]
  have isp : ∀ (a b : List Int) st, isT "tuple" st (.d (.tup [tp a, tp b])) = some true := fun a b st => by simp
  have hsq : ∀ v : List Int, W.seqD (.d (tp v)) = some (v.map .int) := fun v => rfl
  have s1 : ∀ st, dSl st (.d (tp B)) (some (1 : Int)) none = some (.d (tp B.tail)) := fun st => by
    have := cut_from (l := B) (n := 1)
    rw [List.drop_one] at this
    simp only [tp, ← this]
    rfl
  have s2 : ∀ st, dSl st (.d (tp B)) none (some (1 : Int)) = some (.d (tp (B.take 1))) := fun st => by
    have := cut_to (l := B) (n := 1)
    simp only [tp, ← this]
    rfl
  have a8 := @add_tp B.tail (B.take 1) (by rw [List.length_tail, List.length_take]; omega)
  have a9 : ∀ st, dAdd st (.d (tp A)) (.d (.tup [.int (1 + p)])) = some (.d (tp (A ++ [1 + p]))) := @add_tp A [1 + p] (by simp; omega)
  have a10 : ∀ st, dAdd st (.d (tp B)) (.d (.tup [.int (1 + p)])) = some (.d (tp (B ++ [1 + p]))) := @add_tp B [1 + p] (by simp; omega)
  have a11 : ∀ st, dAdd st (.d (tp A)) (.d (.tup [.bl true])) = some (.d (.tup (A.map .int ++ [.bl true]))) := fun st => by simp [tp, show A.length + 1 ≤ 16777216 by omega]
  have lA : ∀ st, dList st [.d (tp A)] = some (.n (A.map .int)) := fun st => by simp [tp, show A.length ≤ 16777216 by omega]
  have lB : ∀ st, dList st [.d (tp B)] = some (.n (B.map .int)) := fun st => by simp [tp, show B.length ≤ 16777216 by omega]
  have wx : Wt m [1 + p] := ⟨fun x hx => by rw [List.mem_singleton.mp hx]; omega, by simp⟩
  have hB7 : B.length ≤ 6 := by omega
  have pairs : ∀ pr ∈ [(A ++ [1 + p], B), (A, B.tail ++ B.take 1), (bkw A, B), (A, B ++ [1 + p]), (([] : List Int), B), (A, w)], Wt m pr.1 ∧ Wt m pr.2 ∧ pr.2.length ≤ 7 := by
    have w1 := wA.app wx (by simp; omega)
    have w2 : Wt m (B.tail ++ B.take 1) := wB.sub (fun x hx => (List.mem_append.mp hx).elim List.mem_of_mem_tail List.mem_of_mem_take) (by rw [List.length_append, List.length_tail, List.length_take]; omega)
    have w3 := wB.app wx (by simp; omega)
    have w4 : Wt m ([] : List Int) := ⟨fun x hx => (by cases hx), by simp⟩
    intro pr hpr
    simp only [List.mem_cons, List.not_mem_nil, or_false] at hpr
    rcases hpr with rfl | rfl | rfl | rfl | rfl | rfl
    · exact ⟨w1, wB, show B.length ≤ 7 by omega⟩
    · exact ⟨wA, w2, by show (B.tail ++ B.take 1).length ≤ 7; rw [List.length_append, List.length_tail, List.length_take]; omega⟩
    · exact ⟨wA.bkw, wB, show B.length ≤ 7 by omega⟩
    · exact ⟨wA, w3, by simp; omega⟩
    · exact ⟨w4, wB, show B.length ≤ 7 by omega⟩
    · exact ⟨wA, hw, hw7⟩
  rw [u__law_word_right (by omega)]
  simp [b__law_word_right, f23, f22, f41, neb, a7, isp, ist, hsq, show ¬ (24 : Int) < (A.length : Int) by omega, show A.length ≤ 16777216 by omega]
  generalize hz : lcGo _ _ _ = z
  have := lcZ_if hz .int A rfl (fun _ => false) .int (fun x hx => by
    have h1 := @r_sort (k - 1) (by omega) 1 (.int x) (by simp)
    have h2 := wA.rg x hx
    have h3 : (0 : Int) < (x.natAbs : Int) := by omega
    have hk2 : kind (.int x) = 2 := rfl
    rw [hk2] at h1
    simp [lcStep_def, h1, abs_if, ix0, h2, h3])
  subst this
  have hff : (A.filter fun _ => false) = [] := List.filter_eq_nil_iff.mpr fun _ _ => Bool.false_ne_true
  rw [hff]
  simp [f41B, f42, a1, a2, f43, f37, f24, f25, ne, like, a7, show ¬ (20 : Int) < (A.length : Int) by omega, f32, f42u, a3, a4, g25, g24, a5, f42w, k25, f27, ix0, hcup, s1, s2, a8, a9, a10, -List.append_assoc]
  have tp0 : D.tup [] = tp [] := rfl
  generalize hz : forGo _ _ _ _ _ = z
  obtain ⟨R, hR⟩ : ∃ R : Envi → Stor → Prop, R = fun env st' => (∃ o9 o10, env = [some (.r 0), some (.d (mkL m qs)), some (.d (tp w)), some (.d (.tup [tp A, tp B])), some (.d (tp A)), some (.d (tp B)), some (.d (.int (1 + p))), some (.d (tp u)), some (.d (tp (u ++ w ++ bkw u))), o9, o10, none, none]) ∧ st' = st2 := ⟨_, rfl⟩
  obtain ⟨env', st', rfl, h⟩ := forZ hz pr2 [(A ++ [1 + p], B), (A, B.tail ++ B.take 1), (bkw A, B), (A, B ++ [1 + p]), ([], B), (A, w)] rfl R (by rw [hR]; exact ⟨⟨none, none, rfl⟩, rfl⟩) (by
    intro pr hpr env st' h
    rw [hR] at h
    obtain ⟨⟨o9, o10, rfl⟩, rfl⟩ := h
    obtain ⟨w1, w2, w3⟩ := pairs pr hpr
    obtain ⟨p10, e⟩ := r_wr2 (k := k - 1) (by omega) g hw hw7 w1 w2 w3 (some (.r 0)) (some (.d (.tup [tp A, tp B]))) (some (.d (tp A))) (some (.d (tp B))) (some (.d (.int (1 + p)))) (some (.d (tp u))) (some (.d (tp (u ++ w ++ bkw u)))) o10 [none, none] st'
    refine ⟨_, by simp, _, _, e, ?_⟩
    rw [hR]
    exact ⟨⟨_, _, rfl⟩, rfl⟩)
  rw [hR] at h
  obtain ⟨⟨o9, o10, rfl⟩, rfl⟩ := h
  simp [lA, lB, a11, ix0]
  generalize hz : lcGo _ _ _ = z
  have := lcZ_if hz id (oddL m A B) (by rw [List.map_id]; rfl) (fun _ => false) id (fun d hd => by
    obtain ⟨h1, h2⟩ := odd_bad (by omega) d hd
    have h3 := @r_is_round_of_bad (k - 1) m qs (by omega) g w hw 6 d h2 h1
    simp [lcStep_def, h3])
  subst this
  have hff : ((oddL m A B).filter fun _ => false) = [] := List.filter_eq_nil_iff.mpr fun _ _ => Bool.false_ne_true
  rw [hff]
  simp [hcup]
end
end DLk41

namespace DLk41
open PySem L2 DL
def pre_law (R R2 : Calls) (kk : DenS) : DenS := (sSeq (sSet 2 (eTup (aCons (eC (.int 3)) (aCons (eTup (aCons (eTup (aCons (eC (.int 0)) (aCons (eC (.int 2)) aNil))) aNil)) aNil)))) (sSeq (sSet 3 (eLst (aCons (eCall R 22 (DL.gCons (eV 2) (DL.gCons (eTup (aCons (eC (.int 1)) (aCons (eC (.int 2)) aNil))) DL.gNil))) (aCons (eCall R 22 (DL.gCons (eV 2) (DL.gCons (eTup (aCons (eC (.int 1)) (aCons (eC (.int 2)) (aCons (eNeg (eC (.int 1))) aNil)))) DL.gNil))) (aCons (eCall R 22 (DL.gCons (eV 2) (DL.gCons (eTup aNil) DL.gNil))) (aCons (eCall R 24 (DL.gCons (eV 2) (DL.gCons (eTup (aCons (eC (.int 1)) (aCons (eC (.int 2)) (aCons (eNeg (eC (.int 1))) aNil)))) (DL.gCons (eTup (aCons (eTup (aCons (eC (.int 1)) aNil)) (aCons (eTup (aCons (eC (.int 2)) aNil)) aNil))) DL.gNil)))) aNil)))))) (sSeq (sSet 3 (eOp dAdd (eV 3) (eLst (aCons (eCall R 24 (DL.gCons (eV 2) (DL.gCons (eTup (aCons (eC (.int 1)) (aCons (eC (.int 2)) (aCons (eNeg (eC (.int 1))) aNil)))) (DL.gCons (eTup (aCons (eTup aNil) (aCons (eTup (aCons (eC (.int 2)) aNil)) aNil))) DL.gNil)))) (aCons (eCall R 25 (DL.gCons (eV 2) (DL.gCons (eTup (aCons (eC (.int 1)) (aCons (eC (.int 2)) (aCons (eNeg (eC (.int 1))) aNil)))) DL.gNil))) (aCons (eCall R 25 (DL.gCons (eV 2) (DL.gCons (eTup (aCons (eC (.int 1)) (aCons (eC (.int 3)) (aCons (eNeg (eC (.int 1))) aNil)))) DL.gNil))) aNil)))))) (sSeq (sSet 4 (eLst (aCons (eC (.bl true)) (aCons (eC (.bl false)) (aCons (eC (.bl true)) (aCons (eC (.bl true)) (aCons (eC (.bl false)) (aCons (eC (.int 1)) (aCons (eC (.int 1)) aNil))))))))) (sSeq (sSet 3 (eOp dAdd (eV 3) (eLst (aCons (eCall R 24 (DL.gCons (eV 2) (DL.gCons (eTup (aCons (eC (.int 3)) (aCons (eC (.int 1)) (aCons (eC (.int 2)) (aCons (eNeg (eC (.int 1))) (aCons (eNeg (eC (.int 3))) aNil)))))) (DL.gCons (eTup (aCons (eTup (aCons (eC (.int 1)) (aCons (eC (.int 3)) aNil))) (aCons (eTup (aCons (eC (.int 2)) aNil)) aNil))) DL.gNil)))) (aCons (eCall R 24 (DL.gCons (eV 2) (DL.gCons (eTup (aCons (eC (.int 3)) (aCons (eC (.int 1)) (aCons (eC (.int 2)) (aCons (eNeg (eC (.int 3))) (aCons (eNeg (eC (.int 1))) aNil)))))) (DL.gCons (eTup (aCons (eTup (aCons (eC (.int 3)) (aCons (eC (.int 1)) aNil))) (aCons (eTup (aCons (eC (.int 2)) aNil)) aNil))) DL.gNil)))) (aCons (eCall R 22 (DL.gCons (eV 2) (DL.gCons (eTup (aCons (eC (.int 1)) (aCons (eC (.int 2)) (aCons (eC (.int 3)) (aCons (eNeg (eC (.int 1))) aNil))))) DL.gNil))) aNil)))))) (sSeq (sSet 3 (eOp dAdd (eV 3) (eLst (aCons (eCall R 25 (DL.gCons (eV 2) (DL.gCons (eTup (aCons (eC (.int 1)) (aCons (eC (.int 2)) (aCons (eC (.int 3)) (aCons (eNeg (eC (.int 1))) aNil))))) DL.gNil))) (aCons (eCall R 22 (DL.gCons (eV 2) (DL.gCons (eTup (aCons (eC (.int 1)) (aCons (eC (.int 2)) (aCons (eNeg (eC (.int 1))) (aCons (eC (.int 3)) aNil))))) DL.gNil))) (aCons (eCall R 22 (DL.gCons (eV 2) (DL.gCons (eTup (aCons (eC (.int 3)) (aCons (eC (.int 2)) (aCons (eNeg (eC (.int 1))) (aCons (eC (.int 2)) aNil))))) DL.gNil))) aNil)))))) (sSeq (sSet 4 (eOp dAdd (eV 4) (eLst (aCons (eC (.bl true)) (aCons (eC (.bl true)) (aCons (eC (.bl false)) (aCons (eC (.int 2)) (aCons (eC (.bl false)) (aCons (eC (.bl true)) aNil))))))))) (sSeq (sSet 3 (eOp dAdd (eV 3) (eLst (aCons (eCall R 22 (DL.gCons (eV 2) (DL.gCons (eTup (aCons (eC (.int 2)) (aCons (eNeg (eC (.int 2))) aNil))) DL.gNil))) (aCons (eCall R 22 (DL.gCons (eV 2) (DL.gCons (eTup (aCons (eC (.int 1)) (aCons (eC (.int 3)) aNil))) DL.gNil))) (aCons (eCall R 24 (DL.gCons (eV 2) (DL.gCons (eTup (aCons (eNeg (eC (.int 1))) (aCons (eC (.int 2)) (aCons (eC (.int 1)) aNil)))) (DL.gCons (eTup (aCons (eTup (aCons (eNeg (eC (.int 1))) aNil)) (aCons (eTup (aCons (eC (.int 2)) aNil)) aNil))) DL.gNil)))) (aCons (eCall R 24 (DL.gCons (eV 2) (DL.gCons (eTup (aCons (eNeg (eC (.int 1))) (aCons (eC (.int 2)) (aCons (eC (.int 1)) aNil)))) (DL.gCons (eTup (aCons (eTup (aCons (eC (.int 1)) aNil)) (aCons (eTup (aCons (eC (.int 2)) aNil)) aNil))) DL.gNil)))) aNil))))))) (sSeq (sSet 3 (eOp dAdd (eV 3) (eLst (aCons (eCall R 25 (DL.gCons (eV 2) (DL.gCons (eTup (aCons (eC (.int 2)) (aCons (eC (.int 1)) (aCons (eC (.int 2)) (aCons (eNeg (eC (.int 1))) (aCons (eNeg (eC (.int 2))) aNil)))))) DL.gNil))) (aCons (eOp dIx (eCall R 23 (DL.gCons (eV 2) (DL.gCons (eTup (aCons (eC (.int 1)) (aCons (eNeg (eC (.int 1))) aNil))) DL.gNil))) (eC (.int 1))) (aCons (eCall R 22 (DL.gCons (eTup (aCons (eC (.int 2)) (aCons (eTup (aCons (eTup (aCons (eC (.int 0)) (aCons (eC (.int 1)) aNil))) aNil)) aNil))) (DL.gCons (eTup (aCons (eC (.int 1)) (aCons (eC (.int 2)) (aCons (eC (.int 1)) aNil)))) DL.gNil))) (aCons (eOp dIx (eCall R 23 (DL.gCons (eTup (aCons (eC (.int 1)) (aCons (eTup aNil) aNil))) (DL.gCons (eTup (aCons (eC (.int 1)) (aCons (eC (.int 1)) (aCons (eNeg (eC (.int 1))) aNil)))) DL.gNil))) (eC (.int 1))) aNil))))))) (sSeq (sSet 4 (eOp dAdd (eV 4) (eLst (aCons (eC (.bl false)) (aCons (eC (.bl true)) (aCons (eC (.bl true)) (aCons (eC (.bl false)) (aCons (eC (.int 1)) (aCons (eTup aNil) (aCons (eC (.bl true)) (aCons (eTup (aCons (eC (.int 1)) aNil)) aNil))))))))))) (sSeq (sIf (bNot (bV (eCall R 30 (DL.gCons (eV 3) (DL.gCons (eV 4) DL.gNil))))) (sRet (eC (.bl false))) sNext) kk)))))))))))
def envI (ns : List Int) : Envi := [some (.d (.scr ns)), some (.r 0), none, none, none, none, none, none, none]
def envF (ns : List Int) : Envi := [some (.d (.scr ns)), some (.r 0), some (.d (.tup [.int 3, .tup [.tup [.int 0, .int 2]]])), some (.d (.lst [.bl true, .bl false, .bl true, .bl true, .bl false, .int 1, .int 1, .bl true, .bl true, .bl false, .int 2, .bl false, .bl true, .bl false, .bl true, .bl true, .bl false, .int 1, .tup [], .bl true, .tup [.int 1]])), some (.d (.lst [.bl true, .bl false, .bl true, .bl true, .bl false, .int 1, .int 1, .bl true, .bl true, .bl false, .int 2, .bl false, .bl true, .bl false, .bl true, .bl true, .bl false, .int 1, .tup [], .bl true, .tup [.int 1]])), none, none, none, none]
set_option maxHeartbeats 4000000 in
theorem r_pre (a b : Int) (ns : List Int) (kk : DenS) : pre_law (run defs 58) (run defs 56) kk (envI ns) [.lst [.int a, .int b]] = kk (envF ns) [.lst [.int a, .int b]] := by kernel_rfl
end DLk41

namespace DLk41
open PySem L2 DL RW TR
set_option maxHeartbeats 4000000 in
theorem r_errors (a b : Int) : run defs 58 45 [] [.lst [.int a, .int b]] = .ok (.d (.bl true)) [.lst [.int a, .int b]] := by kernel_rfl
def aQ : List (Int × Int) := [(0, 2)]
theorem aG : GoodL 3 aQ := ⟨by decide, by decide, by decide, by decide, rfl⟩
def mids : List (List Int) := [[1, 2], [1, 1], [3, 2, 1], [2, -1]]
def bys : List (List Int) := [[1], [2, 3], [-3, 1]]
theorem mid_rd : ∀ c ∈ mids, rd (Fs aQ) c = true := by decide +kernel
theorem mid_ok : ∀ c ∈ mids, ∀ b ∈ bys, (∀ x ∈ b ++ c ++ bkw b, 0 < x.natAbs ∧ (x.natAbs : Int) ≤ 3) ∧ (b ++ c ++ bkw b).length ≤ 7 ∧ c.length ≤ 3 ∧ (∀ x ∈ c, x ≠ 0) := by decide +kernel
theorem mid_rl {c : List Int} (hc : c ∈ mids) {b : List Int} (hb : b ∈ bys) : RL (Fs aQ) (red (Fs aQ) (b ++ c ++ bkw b)) c.length := by
  have t := tfQ aG
  obtain ⟨h1, h2⟩ := (rd_iff t (mid_ok c hc b hb).2.2.2).mp (mid_rd c hc)
  refine red_conj t ?_ b
  rw [red_irr t h1]
  exact .stop h2
end DLk41

namespace DLk41
open PySem L2 DL RW TR
def in2 (R : Calls) : DenS := (sIf (bOr (bNot (bV (eCall R 44 (DL.gCons (eV 1) (DL.gCons (eV 2) (DL.gCons (eOp dAdd (eOp dAdd (eV 8) (eV 7)) (eCall R 42 (DL.gCons (eV 8) DL.gNil))) DL.gNil)))))) (bV (eOp dNe (eCall R 25 (DL.gCons (eV 2) (DL.gCons (eOp dAdd (eOp dAdd (eV 8) (eV 7)) (eCall R 42 (DL.gCons (eV 8) DL.gNil))) DL.gNil))) (eB dLen (DL.gCons (eV 7) DL.gNil))))) (sRet (eC (.bl false))) sNext)
def lp2 (R : Calls) : DenS := (sFor (iS (eTup (aCons (eTup (aCons (eC (.int 1)) (aCons (eC (.int 2)) aNil))) (aCons (eTup (aCons (eC (.int 1)) (aCons (eC (.int 1)) aNil))) (aCons (eTup (aCons (eC (.int 3)) (aCons (eC (.int 2)) (aCons (eC (.int 1)) aNil)))) (aCons (eTup (aCons (eC (.int 2)) (aCons (eNeg (eC (.int 1))) aNil))) aNil)))))) (tN 7) (sFor (iS (eTup (aCons (eTup (aCons (eC (.int 1)) aNil)) (aCons (eTup (aCons (eC (.int 2)) (aCons (eC (.int 3)) aNil))) (aCons (eTup (aCons (eNeg (eC (.int 3))) (aCons (eC (.int 1)) aNil))) aNil))))) (tN 8) (in2 R)))
theorem RL.le {F : Int → Int → Bool} {L : List Int} {n : Nat} (h : RL F L n) : n ≤ L.length := by
  induction h with
  | stop _ => exact Nat.le_refl _
  | step s _ ih => have := s.len; omega
theorem r_in2 {k : Nat} (hk : 56 ≤ k) {st : Stor} (hc : Cup st) {c b : List Int} (hcm : c ∈ mids) (hbm : b ∈ bys) (e0 e3 e4 e5 e6 : Option SV) : ∃ st', in2 (run defs (k - 1)) [e0, some (.r 0), some (.d (mkL 3 aQ)), e3, e4, e5, e6, some (.d (tp c)), some (.d (tp b))] st = .nx [e0, some (.r 0), some (.d (mkL 3 aQ)), e3, e4, e5, e6, some (.d (tp c)), some (.d (tp b))] st' ∧ Cup st' := by
  have t := tfQ aG
  obtain ⟨h1, h2, h3, h4⟩ := mid_ok c hcm b hbm
  have hw : Wt 3 (b ++ c ++ bkw b) := ⟨h1, by omega⟩
  have hrl := mid_rl hcm hbm
  have hl : b.length + c.length + b.length ≤ 7 := by
    have := h2
    rw [List.length_append, List.length_append, bkw_len] at this
    exact this
  obtain ⟨st', e, c'⟩ := r_word_right (k := k - 1) (by omega) aG hw h2 (fun q hq => by
    have := RL.uniq t _ (Nat.le_refl _) hq hrl
    omega) hc
  obtain ⟨A, B, _, f25, hI, hs⟩ := @r_round (k - 1) 3 aQ (by omega) aG _ hw st'
  have hB : B.length = c.length := rl_len t hI hs hrl
  rw [hB] at f25
  have f42 := @r_lback (k - 1) (by omega) b (by omega)
  have a1 := @add_tp b c (by omega)
  have a2 := @add_tp (b ++ c) (bkw b) (by rw [List.length_append, bkw_len]; omega)
  have a7 : ∀ st (v : List Int), dLen st [.d (tp v)] = some (.d (.int (v.length : Int))) := fun st v => by simp [tp]
  exact ⟨st', by simp [in2, e, f25, f42, a1, a2, a7, -List.append_assoc], c'⟩
theorem r_lp2 {k : Nat} (hk : 56 ≤ k) {st : Stor} (hc : Cup st) (e0 e3 e4 e5 e6 e7 e8 : Option SV) : ∃ env' st', lp2 (run defs (k - 1)) [e0, some (.r 0), some (.d (mkL 3 aQ)), e3, e4, e5, e6, e7, e8] st = .nx env' st' ∧ Cup st' := by
  unfold lp2
  obtain ⟨I, hI⟩ : ∃ I, I = in2 (run defs (k - 1)) := ⟨_, rfl⟩
  have hin := fun st hc c b hcm hbm e5 e6 => @r_in2 k hk st hc c b hcm hbm e0 e3 e4 e5 e6
  rw [← hI] at hin ⊢
  simp
  generalize hz : forGo _ _ _ _ _ = z
  obtain ⟨R, hR⟩ : ∃ R : Envi → Stor → Prop, R = fun env st' => (∃ o7 o8, env = [e0, some (.r 0), some (.d (mkL 3 aQ)), e3, e4, e5, e6, o7, o8]) ∧ Cup st' := ⟨_, rfl⟩
  obtain ⟨env', st', rfl, h⟩ := forZ hz tp mids rfl R (by rw [hR]; exact ⟨⟨e7, e8, rfl⟩, hc⟩) (by
    intro c hcm env st h
    rw [hR] at h
    obtain ⟨⟨o7, o8, rfl⟩, hc⟩ := h
    refine ⟨[e0, some (.r 0), some (.d (mkL 3 aQ)), e3, e4, e5, e6, some (.d (tp c)), o8], by simp, ?_⟩
    simp
    generalize hz : forGo _ _ _ _ _ = z
    obtain ⟨R1, hR1⟩ : ∃ R : Envi → Stor → Prop, R = fun env st' => (∃ o8, env = [e0, some (.r 0), some (.d (mkL 3 aQ)), e3, e4, e5, e6, some (.d (tp c)), o8]) ∧ Cup st' := ⟨_, rfl⟩
    obtain ⟨env', st', rfl, h⟩ := forZ hz tp bys rfl R1 (by rw [hR1]; exact ⟨⟨o8, rfl⟩, hc⟩) (by
      intro b hbm env st h
      rw [hR1] at h
      obtain ⟨⟨o8, rfl⟩, hc⟩ := h
      obtain ⟨st', e, c'⟩ := hin st hc c b hcm hbm e5 e6
      refine ⟨_, by simp, _, _, e, ?_⟩
      rw [hR1]
      exact ⟨⟨_, rfl⟩, c'⟩)
    rw [hR1] at h
    obtain ⟨⟨o8, rfl⟩, hc⟩ := h
    refine ⟨_, _, rfl, ?_⟩
    rw [hR]
    exact ⟨⟨_, _, rfl⟩, hc⟩)
  rw [hR] at h
  exact ⟨_, _, rfl, h.2⟩
theorem r_law0 {k : Nat} (hk : 56 ≤ k) (hpre : ∀ (a b : Int) (ns : List Int) (kk : DenS), pre_law (run defs (k - 1)) (run defs (k - 3)) kk (envI ns) [.lst [.int a, .int b]] = kk (envF ns) [.lst [.int a, .int b]]) (herr : ∀ a b : Int, run defs (k - 1) 45 [] [.lst [.int a, .int b]] = .ok (.d (.bl true)) [.lst [.int a, .int b]]) (ns : List Int) (h1 : ns.length ≤ 63) : run defs k 46 [.d (.scr ns)] [] = .ok (.d (.bl true)) [] := by
  obtain ⟨a, b, e1, ha, hb⟩ := r_cup (k := k - 1) (by omega) ns h1
  rw [u_law (by omega)]
  have e2 : b_law (run defs (k - 1)) (run defs (k - 3)) [some (.d (.scr ns)), none, none, none, none, none, none, none, none] [] = pre_law (run defs (k - 1)) (run defs (k - 3)) (sSeq (sFor (i1 (eC (.int 16))) (tN 5) (sSeq (sSet 6 (eIf (bV (eOp dGt (eV 5) (eC (.int 2)))) (eCall (run defs (k - 1)) 31 (DL.gCons (eV 1) DL.gNil)) (eV 2))) (sIf (bNot (bV (eCall (run defs (k - 1)) 44 (DL.gCons (eV 1) (DL.gCons (eV 6) (DL.gCons (eCall (run defs (k - 1)) 32 (DL.gCons (eV 1) (DL.gCons (eV 6) (DL.gCons (eC (.int 5)) DL.gNil)))) DL.gNil)))))) (sRet (eC (.bl false))) sNext))) (sSeq (lp2 (run defs (k - 1))) (sRet (eCall (run defs (k - 1)) 45 DL.gNil)))) (envI ns) [.lst [.int a, .int b]] := by
    have : ∀ kk : DenS, (sSeq (sSetM 1 (eCall (run defs (k - 1)) 26 (DL.gCons (eV 0) DL.gNil))) kk) [some (.d (.scr ns)), none, none, none, none, none, none, none, none] [] = kk (envI ns) [.lst [.int a, .int b]] := fun kk => by
      simp [e1, envI]
    exact this _
  rw [e2, hpre]
  simp [rng1_int (n := 16) (by decide), rangeD_0]
  generalize hz : forGo _ _ _ _ _ = z
  obtain ⟨R, hR⟩ : ∃ R : Envi → Stor → Prop, R = fun env st' => (∃ o8 o9, env = ((envF ns).set 5 o8).set 6 o9) ∧ Cup st' := ⟨_, rfl⟩
  obtain ⟨env', st', rfl, hRe⟩ := forZ hz (fun (i : Nat) => D.int (i : Int)) (List.range 16) (by simp) R (by rw [hR]; exact ⟨⟨none, none, rfl⟩, _, _, rfl, ha, hb⟩) (by
    intro i hi env st' h
    rw [hR] at h
    obtain ⟨⟨o8, o9, rfl⟩, hc⟩ := h
    refine ⟨((envF ns).set 5 (some (.d (.int i)))).set 6 o9, rfl, ?_⟩
    have step : ∀ (m : Int) (qs : List (Int × Int)) (st : Stor), GoodL m qs → m ≤ 4 → Cup st → ∃ env2 st2, (sIf (bNot (bV (eCall (run defs (k - 1)) 44 (DL.gCons (eV 1) (DL.gCons (eV 6) (DL.gCons (eCall (run defs (k - 1)) 32 (DL.gCons (eV 1) (DL.gCons (eV 6) (DL.gCons (eC (.int 5)) DL.gNil)))) DL.gNil)))))) (sRet (eC (.bl false))) sNext) (((envF ns).set 5 (some (.d (.int i)))).set 6 (some (.d (mkL m qs)))) st = .nx env2 st2 ∧ R env2 st2 := by
      intro m qs st g _ hc
      obtain ⟨w, st2, e3, hw, hl, c2⟩ := r_lword (k := k - 1) (by omega) g (most := 5) (by decide) (by decide) hc
      obtain ⟨st3, e4, c3⟩ := r_word_right (k := k - 1) (by omega) g (w := w) ⟨hw, by omega⟩ (by omega) (fun q hq => Nat.le_trans (RL.le hq) (by have := (red_len (tfQ g) w).2; omega)) c2
      refine ⟨_, st3, by simp [envF, e3, e4]; rfl, ?_⟩
      rw [hR]
      exact ⟨⟨some (.d (.int i)), some (.d (mkL m qs)), rfl⟩, c3⟩
    by_cases h2 : 2 < (i : Int)
    · obtain ⟨m, qs, st2, e3, g, m4, c2⟩ := r_dletters (k := k - 1) (by omega) hc
      have f := step m qs st2 g m4 c2
      simp only [sSeq_eq]
      have e5 : (sSet 6 (eIf (bV (eOp dGt (eV 5) (eC (.int 2)))) (eCall (run defs (k - 1)) 31 (DL.gCons (eV 1) DL.gNil)) (eV 2))) (((envF ns).set 5 (some (.d (.int i)))).set 6 o9) st' = .nx (((envF ns).set 5 (some (.d (.int i)))).set 6 (some (.d (mkL m qs)))) st2 := by
        simp [envF, h2, e3]
      rw [e5]
      exact f
    · have f := step 3 aQ st' aG (by decide) hc
      simp only [sSeq_eq]
      have e5 : (sSet 6 (eIf (bV (eOp dGt (eV 5) (eC (.int 2)))) (eCall (run defs (k - 1)) 31 (DL.gCons (eV 1) DL.gNil)) (eV 2))) (((envF ns).set 5 (some (.d (.int i)))).set 6 o9) st' = .nx (((envF ns).set 5 (some (.d (.int i)))).set 6 (some (.d (mkL 3 aQ)))) st' := by
        simp [envF, h2, mkL, aQ, mkQ]
      rw [e5]
      exact f)
  rw [hR] at hRe
  obtain ⟨⟨o8, o9, rfl⟩, hc⟩ := hRe
  obtain ⟨e2', st2, e, a', b', rfl, _, _⟩ := r_lp2 (k := k) hk hc (some (.d (.scr ns))) ((envF ns).getD 3 none) ((envF ns).getD 4 none) o8 o9 none none
  have e9 : lp2 (run defs (k - 1)) (((envF ns).set 5 o8).set 6 o9) st' = .nx e2' [.lst [.int a', .int b']] := e
  simp [e9, herr]
theorem r_law (ns : List Int) (h1 : ns.length ≤ 63) (h2 : ∀ z ∈ ns, Builtin.Int.intBits z ≤ 1048576) : ∃ st, run defs 59 46 [.d (.scr ns)] [] = .ok (.d (.bl true)) st := ⟨[], r_law0 (k := 59) (by decide) r_pre r_errors ns h1⟩
end DLk41

open PySem PySem.W PyProof.Rows
set_option maxHeartbeats 0 in
theorem PySem.Challenge.cw_letterspiled_k41_whole_round_words_holds : PySem.Challenge.rw_letterspiled_k41_whole_round_words.Holds := by
  w_on; o_law; k_head; (case hw => w_witness2)
  k_fill
  refine LamX.walk_ofTs (l := PySem.Challenge.rw_letterspiled_k41_whole_round_words) (n := 63) (k := 59) (x := "script") (CX := fun w => L2N.CX PySem.Challenge.rw_letterspiled_k41_whole_round_words.prog w) rfl (by decide) rfl ⟨rfl, by decide, by decide⟩ (fun w h Y => PySem.W.km_in_of Y) ?F (fun _ _ _ _ _ h => DL.lands_no h)
  case F =>
    intro w mg fa h Y KX G hmg
    refine DL.law_at (P := DLk41.prg) (defs := DLk41.defs) (i := 46) (d := DLk41.d_law) ?C KX G (PySem.W.km_tabs_of Y) rfl (fun e he => by cases he; exact ⟨_, rfl, rfl, rfl⟩) DLk41.defs_ok rfl rfl hmg DLk41.r_law
    case C =>
      refine ⟨?ds, ?keys, ?cs, ?ss, ?ks, ?bs, ?tt⟩
      (case ds => kernel_rfl)
      (case keys => kernel_rfl)
      (case cs => kernel_rfl)
      (case ss => kernel_rfl)
      (case ks => kernel_rfl)
      (case bs => kernel_rfl)
      (case tt => kernel_rfl)

