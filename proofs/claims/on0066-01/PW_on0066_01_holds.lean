import PyProof.Rows.All
import Wide.All
import OpenK.AllK
import Wide.FinOn
import KE.KItem
import KE.KPairComp
import KE.KWords
import PySem.Challenge.RW_on0066_01
set_option Elab.async false
noncomputable section
open PySem PySem.W PyProof.Rows
namespace Fill66

/-- abstract values -/
inductive D where
  | none
  | bool (b : Bool)
  | int (i : Int)
  | str (s : Str)
  | list (l : List D)
  | tup (l : List D)
  | mut (a : Addr)
  | fill (c : Int)
  | raw (v : Value)

abbrev G := Addr → Option Obj
def G.le (g g' : G) : Prop := ∀ a o, g a = some o → g' a = some o
theorem G.le.refl (g : G) : G.le g g := fun _ _ h => h
theorem G.le.trans {g g' g'' : G} (h : G.le g g') (h' : G.le g' g'') : G.le g g'' := fun a o e => h' a o (h a o e)
def G.add (g : G) (a : Addr) (o : Obj) : G := fun b => if b = a then some o else g b
theorem G.add_self (g : G) (a : Addr) (o : Obj) : g.add a o a = some o := if_pos rfl
theorem G.add_le {g : G} {a : Addr} (o : Obj) (h : g a = none) : G.le g (g.add a o) := fun b o' e => by
  unfold G.add
  by_cases hb : b = a
  · subst hb; rw [h] at e; cases e
  · rw [if_neg hb]; exact e

abbrev LObj (vs : List Value) (n : Nat) : Obj := { cls := .type "list", data := .seq vs.toArray n }
abbrev TObj (vs : List Value) (n : Nat) : Obj := { cls := .type "tuple", data := .seq vs.toArray n }

def fillMap (c : Int) (la : Addr) (t1 t2 t3 : Tok) : Str → Option Value := fun nm =>
  if nm = "column" then some (.int c t1) else if nm = "way" then some (.str "left" t2) else if nm = "leads" then some (.ref la) else if nm = "tab" then some (.int 8 t3) else none

/-- the class stands there as it was made -/
def ClsIn (g : G) (C : Addr) : Prop :=
  ∃ nm q N bs sn sub ab col dd k0 k1 k2 k3 k5 newId oN es ep, g C = some (excClassObj nm q C N bs [.type "object"] true sn sub ab col dd k0 k1 k2 k3 k5 newId) ∧ g N = some oN ∧ oN.data = .dict es ep ∧ StrKeys es ∧
    nsFind es "__getattribute__" = none ∧ nsFind es "column" = none ∧ nsFind es "way" = none ∧ nsFind es "leads" = none ∧ nsFind es "tab" = none

def FillRep (g : G) (c : Int) (v : Value) : Prop :=
  ∃ a da la C oa od es ep t1 t2 t3 u n, v = .ref a ∧ da ≠ a ∧ ClsIn g C ∧ g a = some oa ∧ oa.cls = .ref C ∧ (∀ k, oa.data ≠ .cls k) ∧ oa.dict = some da ∧ g da = some od ∧ od.data = .dict es ep ∧ StrKeys es ∧ UniqKeys es ∧
    (∀ nm, nsFind es nm = fillMap c la t1 t2 t3 nm) ∧ g la = some (LObj [.int 62 u] n)

mutual
def Rep (g : G) : D → Value → Prop
  | .none, v => v = .none
  | .bool b, v => v = .bool b
  | .int i, v => ∃ t, v = .int i t
  | .str x, v => ∃ t, v = .str x t
  | .list l, v => ∃ a vs n, v = .ref a ∧ g a = some (LObj vs n) ∧ RepL g l vs
  | .tup l, v => ∃ a vs n, v = .ref a ∧ g a = some (TObj vs n) ∧ RepL g l vs
  | .mut a, v => v = .ref a
  | .fill c, v => FillRep g c v
  | .raw u, v => v = u
def RepL (g : G) : List D → List Value → Prop
  | [], vs => vs = []
  | d :: ds, vs => ∃ v r, vs = v :: r ∧ Rep g d v ∧ RepL g ds r
end

theorem ClsIn.mono {g g' : G} (h : G.le g g') {C : Addr} (x : ClsIn g C) : ClsIn g' C := by
  obtain ⟨nm, q, N, bs, sn, sub, ab, col, dd, k0, k1, k2, k3, k5, newId, oN, es, ep, e1, e2, r⟩ := x
  exact ⟨nm, q, N, bs, sn, sub, ab, col, dd, k0, k1, k2, k3, k5, newId, oN, es, ep, h _ _ e1, h _ _ e2, r⟩
theorem FillRep.mono {g g' : G} (h : G.le g g') {c : Int} {v : Value} (x : FillRep g c v) : FillRep g' c v := by
  obtain ⟨a, da, la, C, oa, od, es, ep, t1, t2, t3, u, n, e1, e2, e3, e4, e4a, e4b, e4c, e5, e5a, e6, e7, e8, e9⟩ := x
  exact ⟨a, da, la, C, oa, od, es, ep, t1, t2, t3, u, n, e1, e2, e3.mono h, h _ _ e4, e4a, e4b, e4c, h _ _ e5, e5a, e6, e7, e8, h _ _ e9⟩

mutual
theorem Rep.mono {g g' : G} (h : G.le g g') : ∀ {d : D} {v : Value}, Rep g d v → Rep g' d v
  | .none, _, x => by simpa [Rep] using x
  | .bool _, _, x => by simpa [Rep] using x
  | .int _, _, x => by simpa [Rep] using x
  | .str _, _, x => by simpa [Rep] using x
  | .list l, v, x => by
    rw [Rep] at x ⊢
    obtain ⟨a, vs, n, rfl, e, r⟩ := x
    exact ⟨a, vs, n, rfl, h _ _ e, RepL.mono h r⟩
  | .tup l, v, x => by
    rw [Rep] at x ⊢
    obtain ⟨a, vs, n, rfl, e, r⟩ := x
    exact ⟨a, vs, n, rfl, h _ _ e, RepL.mono h r⟩
  | .mut _, _, x => by simpa [Rep] using x
  | .fill _, _, x => by rw [Rep] at x ⊢; exact x.mono h
  | .raw _, _, x => by simpa [Rep] using x
theorem RepL.mono {g g' : G} (h : G.le g g') : ∀ {ds : List D} {vs : List Value}, RepL g ds vs → RepL g' ds vs
  | [], _, x => by simpa [RepL] using x
  | d :: ds, vs, x => by
    rw [RepL] at x ⊢
    obtain ⟨v, r, rfl, h1, h2⟩ := x
    exact ⟨v, r, rfl, Rep.mono h h1, RepL.mono h h2⟩
end

theorem RepL.nil {g : G} : RepL g [] [] := by rw [RepL]
theorem RepL.cons {g : G} {d : D} {ds : List D} {v : Value} {vs : List Value} (h : Rep g d v) (hs : RepL g ds vs) : RepL g (d :: ds) (v :: vs) := by rw [RepL]; exact ⟨v, vs, rfl, h, hs⟩
theorem RepL.length {g : G} : ∀ {ds : List D} {vs : List Value}, RepL g ds vs → vs.length = ds.length
  | [], _, x => by rw [RepL] at x; subst x; rfl
  | d :: ds, vs, x => by
    rw [RepL] at x
    obtain ⟨v, r, rfl, _, h2⟩ := x
    simp [RepL.length h2]
theorem RepL.get {g : G} : ∀ {ds : List D} {vs : List Value} {i : Nat} {d : D}, RepL g ds vs → ds[i]? = some d → ∃ v, vs[i]? = some v ∧ Rep g d v
  | [], _, i, _, _, h => by simp at h
  | d :: ds, vs, i, e, x, h => by
    rw [RepL] at x
    obtain ⟨v, r, rfl, h1, h2⟩ := x
    cases i with
    | zero => simp at h; subst h; exact ⟨v, rfl, h1⟩
    | succ i => simpa using RepL.get h2 (by simpa using h)
theorem RepL.append {g : G} : ∀ {ds es : List D} {vs us : List Value}, RepL g ds vs → RepL g es us → RepL g (ds ++ es) (vs ++ us)
  | [], _, _, _, x, y => by rw [RepL] at x; subst x; exact y
  | d :: ds, es, vs, us, x, y => by
    rw [RepL] at x
    obtain ⟨v, r, rfl, h1, h2⟩ := x
    exact RepL.cons h1 (RepL.append h2 y)
theorem RepL.take {g : G} : ∀ {ds : List D} {vs : List Value} (k : Nat), RepL g ds vs → RepL g (ds.take k) (vs.take k)
  | [], _, _, x => by rw [RepL] at x; subst x; simpa using RepL.nil
  | d :: ds, vs, k, x => by
    rw [RepL] at x
    obtain ⟨v, r, rfl, h1, h2⟩ := x
    cases k with
    | zero => simpa using RepL.nil
    | succ k => exact RepL.cons h1 (RepL.take k h2)
theorem RepL.drop {g : G} : ∀ {ds : List D} {vs : List Value} (k : Nat), RepL g ds vs → RepL g (ds.drop k) (vs.drop k)
  | [], _, _, x => by rw [RepL] at x; subst x; simpa using RepL.nil
  | d :: ds, vs, k, x => by
    rw [RepL] at x
    obtain ⟨v, r, rfl, h1, h2⟩ := x
    cases k with
    | zero => exact RepL.cons h1 h2
    | succ k => simpa using RepL.drop k h2

inductive Cell where
  | lst (ds : List D)
  | obj (p : Obj → Prop)

abbrev Mu := List (Str × D)
abbrev Own := List (Addr × Cell)
def Mu.get (μ : Mu) (x : Str) : Option D := List.lookup x μ
def Mu.set : Mu → Str → D → Mu
  | [], x, d => [(x, d)]
  | (y, e) :: r, x, d => if y = x then (y, d) :: r else (y, e) :: Mu.set r x d

theorem Mu.get_set {x y : Str} {d : D} : ∀ {μ : Mu}, (μ.set x d).get y = if y = x then some d else μ.get y
  | [] => by
    by_cases h : y = x
    · subst h; simp [Mu.set, Mu.get, List.lookup_cons]
    · have : (y == x) = false := by simpa using h
      simp [Mu.set, Mu.get, List.lookup_cons, h, this]
  | (z, e) :: r => by
    unfold Mu.set
    by_cases hz : z = x
    · subst hz
      rw [if_pos rfl]
      by_cases h : y = z
      · subst h; simp [Mu.get, List.lookup_cons]
      · have : (y == z) = false := by simpa using h
        simp [Mu.get, List.lookup_cons, this, h]
    · rw [if_neg hz]
      have ih := Mu.get_set (x := x) (y := y) (d := d) (μ := r)
      unfold Mu.get at ih ⊢
      rw [List.lookup_cons, List.lookup_cons]
      by_cases h : y = z
      · subst h; simp [hz]
      · have hb : (y == z) = false := by simpa using h
        rw [hb]; exact ih

/-- the defs of the text, by their places -/
def dr (i : Nat) : DefRec := match PySem.Challenge.pw_on0066_01.main.body[i]? with
  | some (.FunctionDef name a b _ _ _ sc _ _ pos) => ⟨name, a, b, sc, pos⟩
  | _ => ⟨"", { posonlyargs := [], args := [], vararg := none, kwonlyargs := [], kw_defaults := [], kwarg := none, defaults := [] }, [], default, default⟩

def isDef (i : Nat) : Bool := match PySem.Challenge.pw_on0066_01.main.body[i]? with
  | some (.FunctionDef ..) => true
  | _ => false

/-- a def stands at the top -/
def FnAt (t : Heap) (mg : Str → Option Value) (i : Nat) : Prop :=
  ∃ a o pm code doc, mg (dr i).name = some (.ref a) ∧ t.get? a = some o ∧ o.data = .func (Calls.docDef (dr i).name (dr i).params (dr i).body (dr i).scope pm code doc) ∧ t.CodeRec code (dr i).name

/-- the top's written ints and tuples, by name -/
def topInt (nm : Str) : Option Int :=
  if nm = "BLANK_fillwords" ∨ nm = "BLANK_filltext" then some 32 else if nm = "TAB_fillwords" ∨ nm = "TAB_rectcols" ∨ nm = "TAB_filltext" then some 9
  else if nm = "ROW_END_fillwords" ∨ nm = "ROW_END_filltext" then some 10 else if nm = "PERIOD" then some 46 else none
def topTup (nm : Str) : Option (List Int) := if nm = "ENDS" then some [33, 46, 63] else if nm = "CLOSERS" then some [34, 39, 41, 93, 125] else none
/-- the built-ins that the text reads, none of them bound by it -/
def freeName (nm : Str) : Bool := (["len", "range", "abs", "ord", "chr", "zip", "enumerate"] : List Str).contains nm

/-- what is known of the heap behind the top -/
structure Room (A : Around) (k : Nat) : Prop where
  handled : A.handled = none
  depth : A.depth + k < recursionLimit
  units : A.units + 20 * k + 100 < cLine

structure Cx where
  prog : Program
  w : World
  A : Around
  k : Nat
  t : Heap
  mg : Str → Option Value
  mb : Str → Option Value
  s₀ : Shared
  g₀ : G
  lent : Option Addr

structure TF (t : Heap) (mg mb : Str → Option Value) : Prop where
  g : t.Ns mainGlobals mg
  b : t.Ns builtinsNs mb
  nolimit : t.NoLimit
  bl : ∀ x : Str, x ≠ "__name__" → mb x = bootBuiltins x
  fn : ∀ i, isDef i = true → FnAt t mg i
  int : ∀ nm i, topInt nm = some i → ∃ u, mg nm = some (.int i u)
  tup : ∀ nm l, topTup nm = some l → ∃ a vs n, mg nm = some (.ref a) ∧ t.get? a = some (TObj vs n) ∧ IntsAre vs l
  free : ∀ nm, freeName nm = true → mg nm = none

structure Ext (lent : Option Addr) (g : G) (s : Shared) (g' : G) (s' : Shared) : Prop where
  keep : ∀ a o, s.heap.get? a = some o → lent ≠ some a → s'.heap.get? a = some o
  size : s.heap.objs.size ≤ s'.heap.objs.size
  gens : s'.gens = s.gens
  os : s'.os = s.os
  gg : G.le g g'
  gh : ∀ a o, g' a = some o → s'.heap.get? a = some o
  gn : ∀ a, g' a ≠ none → g a ≠ none ∨ s.heap.objs.size ≤ a

def CellIs (g : G) (h : Heap) (a : Addr) : Cell → Prop
  | .lst ds => ∃ vs n, h.get? a = some (LObj vs n) ∧ RepL g ds vs
  | .obj p => ∃ o, h.get? a = some o ∧ p o

structure W (x : Cx) (L : Addr) (g : G) (μ : Mu) (ow : Own) (s : Shared) : Prop where
  tf : TF x.t x.mg x.mb
  room : Room x.A x.k
  ext : Ext x.lent x.g₀ x.s₀ g s
  tb : x.t.objs.size ≤ x.s₀.heap.objs.size
  top : ∀ a o, x.t.get? a = some o → s.heap.get? a = some o
  ns : ∃ m, s.heap.Ns L m ∧ ∀ y d, μ.get y = some d → ∃ v, m y = some v ∧ Rep g d v
  Lb : x.s₀.heap.objs.size ≤ L
  gL : g L = none
  own : ∀ p ∈ ow, CellIs g s.heap p.1 p.2 ∧ x.t.objs.size ≤ p.1 ∧ (x.s₀.heap.objs.size ≤ p.1 ∨ x.lent = some p.1) ∧ p.1 ≠ L ∧ g p.1 = none
  nodup : (ow.map (·.1)).Nodup
  lentT : ∀ a, x.lent = some a → x.t.objs.size ≤ a ∧ a < x.s₀.heap.objs.size

theorem CellIs.mono {g g' : G} (hg : G.le g g') {h h' : Heap} {a : Addr} {c : Cell} (hh : ∀ o, h.get? a = some o → h'.get? a = some o) (x : CellIs g h a c) : CellIs g' h' a c := by
  cases c with
  | lst ds => obtain ⟨vs, n, h1, h2⟩ := x; exact ⟨vs, n, hh _ h1, h2.mono hg⟩
  | obj p => obtain ⟨o, h1, h2⟩ := x; exact ⟨o, hh _ h1, h2⟩
theorem CellIs.some {g : G} {h : Heap} {a : Addr} {c : Cell} (x : CellIs g h a c) : ∃ o, h.get? a = some o := by
  cases c with
  | lst ds => obtain ⟨vs, n, h1, h2⟩ := x; exact ⟨_, h1⟩
  | obj p => obtain ⟨o, h1, h2⟩ := x; exact ⟨o, h1⟩

section
variable {x : Cx} {L : Addr} {g g' : G} {μ : Mu} {own : Own} {s s' : Shared}

/-- the state grows, nothing else is known of it -/
theorem W.grow (h : W x L g μ own s) (hk : ∀ a o, s.heap.get? a = some o → s'.heap.get? a = some o) (hsz : s.heap.objs.size ≤ s'.heap.objs.size) (hg : s'.gens = s.gens) (ho : s'.os = s.os) : W x L g μ own s' where
  tf := h.tf
  room := h.room
  ext := ⟨fun a o e hl => hk _ _ (h.ext.keep a o e hl), Nat.le_trans h.ext.size hsz, hg.trans h.ext.gens, ho.trans h.ext.os, h.ext.gg, fun a o e => hk _ _ (h.ext.gh a o e), h.ext.gn⟩
  tb := h.tb
  top := fun a o e => hk _ _ (h.top a o e)
  ns := let ⟨m, h1, h2⟩ := h.ns; ⟨m, h1.keeps hk, h2⟩
  Lb := h.Lb
  gL := h.gL
  own := fun p hp => let ⟨a, b, c⟩ := h.own p hp; ⟨a.mono (G.le.refl g) fun o e => hk _ _ e, b, c⟩
  nodup := h.nodup
  lentT := h.lentT

theorem W.toks (h : W x L g μ own s) (k : Nat) : W x L g μ own { s with toks := k } := h.grow (fun _ _ e => e) (Nat.le_refl _) rfl rfl

theorem W.push (h : W x L g μ own s) (o : Obj) : W x L g μ own { s with heap := s.heap.push o } :=
  h.grow (fun _ _ e => Heap.get?_push_of_some _ e) (by show _ ≤ (s.heap.push o).objs.size; rw [Heap.size_push]; omega) rfl rfl

/-- the frozen part grows by old or new things of the heap that no own cell holds -/
theorem W.freezeG (h : W x L g μ own s) {a : Addr} {o : Obj} (ha : s.heap.get? a = some o) (hn : x.s₀.heap.objs.size ≤ a) (hL : a ≠ L) (hown : ∀ p ∈ own, p.1 ≠ a) (hga : g a = none) : W x L (g.add a o) μ own s where
  tf := h.tf
  room := h.room
  ext := ⟨h.ext.keep, h.ext.size, h.ext.gens, h.ext.os, h.ext.gg.trans (G.add_le o hga), fun b o' e => by
      unfold G.add at e
      by_cases hb : b = a
      · subst hb; rw [if_pos rfl] at e; cases e; exact ha
      · rw [if_neg hb] at e; exact h.ext.gh b o' e, fun b hb => by
      unfold G.add at hb
      by_cases hba : b = a
      · subst hba; exact .inr hn
      · rw [if_neg hba] at hb; exact h.ext.gn b hb⟩
  tb := h.tb
  top := h.top
  ns := let ⟨m, h1, h2⟩ := h.ns; ⟨m, h1, fun y d e => let ⟨v, p, q⟩ := h2 y d e; ⟨v, p, q.mono (G.add_le o hga)⟩⟩
  Lb := h.Lb
  gL := by unfold G.add; rw [if_neg (Ne.symm hL)]; exact h.gL
  own := fun p hp => let ⟨a1, b, c, d, e⟩ := h.own p hp; ⟨a1.mono (G.add_le o hga) (fun _ e => e), b, c, d, by unfold G.add; rw [if_neg (hown p hp)]; exact e⟩
  nodup := h.nodup
  lentT := h.lentT

theorem W.Llt (h : W x L g μ own s) : L < s.heap.objs.size := let ⟨_, h1, _⟩ := h.ns; h1.lt
theorem W.ownlt (h : W x L g μ own s) {p : Addr × Cell} (hp : p ∈ own) : p.1 < s.heap.objs.size := let ⟨_, e⟩ := (h.own p hp).1.some; Heap.lt_size e
theorem W.gsize (h : W x L g μ own s) {a : Addr} (ha : s.heap.objs.size ≤ a) : g a = none := by
  cases e : g a with
  | none => rfl
  | some o => exact absurd (Heap.lt_size (h.ext.gh a o e)) (Nat.not_lt.mpr ha)

/-- a new object, frozen at once -/
theorem W.pushG (h : W x L g μ own s) {o : Obj} (hf : o.isFreed = false := by rfl) : W x L (g.add s.heap.objs.size o) μ own { s with heap := s.heap.push o } :=
  (h.push o).freezeG (Heap.get?_push_size _ hf) h.ext.size (Nat.ne_of_gt h.Llt) (fun p hp => Nat.ne_of_lt (h.ownlt hp)) (h.gsize (Nat.le_refl _))

/-- a new object, own -/
theorem W.pushOwn (h : W x L g μ own s) {o : Obj} {c : Cell} (hc : CellIs g (s.heap.push o) s.heap.objs.size c) : W x L g μ ((s.heap.objs.size, c) :: own) { s with heap := s.heap.push o } :=
  let h' := h.push o
  { h' with
    own := fun p hp => by
      rcases List.mem_cons.mp hp with rfl | hp
      · exact ⟨hc, Nat.le_trans h.tb h.ext.size, .inl h.ext.size, Nat.ne_of_gt h.Llt, h.gsize (Nat.le_refl _)⟩
      · exact h'.own p hp
    nodup := by
      rw [List.map_cons, List.nodup_cons]
      refine ⟨fun hm => ?_, h.nodup⟩
      obtain ⟨p, hp, e⟩ := List.mem_map.mp hm
      exact absurd (h.ownlt hp) (by rw [e]; exact Nat.lt_irrefl _) }

/-- a local is stored -/
theorem W.store (h : W x L g μ own s) {y : Str} {d : D} {v : Value} (hv : Rep g d v) {m : Str → Option Value} {h' : Heap} {k : Nat} (hm : ∀ z e, μ.get z = some e → ∃ v, m z = some v ∧ Rep g e v)
    (hn : h'.Ns L (fun z => if z = y then some v else m z)) (hs : Heap.SameBut L s.heap h') : W x L g (μ.set y d) own { s with heap := h', toks := k } where
  tf := h.tf
  room := h.room
  ext := ⟨fun a o e hl => (hs.2 a (fun ea => by subst ea; exact absurd (Heap.lt_size e) (Nat.not_lt.mpr h.Lb))).trans (h.ext.keep a o e hl), Nat.le_trans h.ext.size (Nat.le_of_eq hs.1.symm), h.ext.gens, h.ext.os, h.ext.gg,
    fun a o e => (hs.2 a (fun ea => by subst ea; rw [h.gL] at e; cases e)).trans (h.ext.gh a o e), h.ext.gn⟩
  tb := h.tb
  top := fun a o e => (hs.2 a (fun ea => by subst ea; exact absurd (Heap.lt_size e) (Nat.not_lt.mpr (Nat.le_trans h.tb h.Lb)))).trans (h.top a o e)
  ns := ⟨_, hn, fun z e hz => by
    rw [Mu.get_set] at hz
    by_cases hzy : z = y
    · rw [if_pos hzy] at hz; cases hz; exact ⟨v, if_pos hzy, hv⟩
    · rw [if_neg hzy] at hz
      obtain ⟨v', h1, h2⟩ := hm z e hz
      exact ⟨v', (if_neg hzy).trans h1, h2⟩⟩
  Lb := h.Lb
  gL := h.gL
  own := fun p hp => let ⟨a, b, c, d, e⟩ := h.own p hp; ⟨a.mono (G.le.refl g) (fun o e => (hs.2 p.1 d).trans e), b, c, d, e⟩
  nodup := h.nodup
  lentT := h.lentT

/-- an own cell is changed -/
theorem W.updOwn {a : Addr} {c c' : Cell} (h : W x L g μ ((a, c) :: own) s) {h' : Heap} {k : Nat} (hs : Heap.SameBut a s.heap h') (hc : CellIs g h' a c') : W x L g μ ((a, c') :: own) { s with heap := h', toks := k } where
  tf := h.tf
  room := h.room
  ext := by
    obtain ⟨_, hat, hnew, haL, hga⟩ := h.own _ List.mem_cons_self
    refine ⟨fun b o e hl => (hs.2 b (fun ea => ?_)).trans (h.ext.keep b o e hl), Nat.le_trans h.ext.size (Nat.le_of_eq hs.1.symm), h.ext.gens, h.ext.os, h.ext.gg,
      fun b o e => (hs.2 b (fun ea => ?_)).trans (h.ext.gh b o e), h.ext.gn⟩
    · subst ea
      rcases hnew with hn | hn
      · exact absurd (Heap.lt_size e) (Nat.not_lt.mpr hn)
      · exact hl hn
    · subst ea; rw [hga] at e; cases e
  tb := h.tb
  top := fun b o e => (hs.2 b (fun ea => by subst ea; exact absurd (Heap.lt_size e) (Nat.not_lt.mpr (h.own _ List.mem_cons_self).2.1))).trans (h.top b o e)
  ns := let ⟨m, h1, h2⟩ := h.ns; ⟨m, h1.sameBut hs (Ne.symm (h.own _ List.mem_cons_self).2.2.2.1), h2⟩
  Lb := h.Lb
  gL := h.gL
  own := fun p hp => by
    have hnd := h.nodup
    rw [List.map_cons, List.nodup_cons] at hnd
    rcases List.mem_cons.mp hp with rfl | hp
    · obtain ⟨_, b⟩ := h.own _ List.mem_cons_self
      exact ⟨hc, b⟩
    · obtain ⟨a1, b⟩ := h.own _ (List.mem_cons_of_mem _ hp)
      exact ⟨a1.mono (G.le.refl g) (fun o e => (hs.2 p.1 (fun ea => hnd.1 (List.mem_map.mpr ⟨p, hp, ea⟩))).trans e), b⟩
  nodup := h.nodup
  lentT := h.lentT

/-- own cells are changed, all else is kept or new -/
theorem W.step {cs cs' : Own} (h : W x L g μ (cs ++ own) s) (ha : (cs'.map (·.1)).Sublist (cs.map (·.1))) (hk : ∀ a o, (∀ p ∈ cs, a ≠ p.1) → s.heap.get? a = some o → s'.heap.get? a = some o)
    (hge : s'.gens = s.gens) (hos : s'.os = s.os) (hc : ∀ p ∈ cs', CellIs g s'.heap p.1 p.2) : W x L g μ (cs' ++ own) s' := by
  have hin : ∀ p ∈ cs, p ∈ cs ++ own := fun p hp => List.mem_append_left _ hp
  have hnd := h.nodup
  rw [List.map_append, List.nodup_append] at hnd
  have hLs : L < s'.heap.objs.size := by
    obtain ⟨m, ⟨o, es, ep, e1, e2⟩, h2⟩ := h.ns
    exact Heap.lt_size (hk _ _ (fun p hp ea => (h.own p (hin p hp)).2.2.2.1 ea.symm) e1)
  refine ⟨h.tf, h.room, ⟨fun b o e hl => hk b o (fun p hp ea => ?_) (h.ext.keep b o e hl), Nat.le_trans h.Lb (Nat.le_of_lt hLs), hge.trans h.ext.gens, hos.trans h.ext.os, h.ext.gg,
    fun b o e => hk b o (fun p hp ea => ?_) (h.ext.gh b o e), h.ext.gn⟩, h.tb, fun b o e => hk b o (fun p hp ea => ?_) (h.top b o e), ?_, h.Lb, h.gL, fun p hp => ?_, ?_, h.lentT⟩
  · rcases (h.own p (hin p hp)).2.2.1 with hn | hn
    · exact absurd (Heap.lt_size e) (Nat.not_lt.mpr (ea ▸ hn))
    · exact hl (ea ▸ hn)
  · have := (h.own p (hin p hp)).2.2.2.2
    rw [← ea, e] at this; cases this
  · exact absurd (Heap.lt_size e) (Nat.not_lt.mpr (ea ▸ (h.own p (hin p hp)).2.1))
  · obtain ⟨m, ⟨o, es, ep, e1, e2⟩, h2⟩ := h.ns
    exact ⟨m, ⟨o, es, ep, hk _ _ (fun p hp ea => (h.own p (hin p hp)).2.2.2.1 ea.symm) e1, e2⟩, h2⟩
  · rcases List.mem_append.mp hp with hp | hp
    · have : p.1 ∈ cs.map (·.1) := ha.subset (List.mem_map.mpr ⟨p, hp, rfl⟩)
      obtain ⟨q, hq, e⟩ := List.mem_map.mp this
      obtain ⟨_, b⟩ := h.own q (hin q hq)
      exact ⟨hc p hp, e ▸ b⟩
    · obtain ⟨a1, b⟩ := h.own p (List.mem_append_right _ hp)
      exact ⟨a1.mono (G.le.refl g) (fun o e => hk _ _ (fun q hq ea => hnd.2.2 _ (List.mem_map.mpr ⟨q, hq, rfl⟩) _ (List.mem_map.mpr ⟨p, hp, rfl⟩) ea.symm) e), b⟩
  · rw [List.map_append]
    have h0 := h.nodup
    rw [List.map_append] at h0
    exact h0.sublist (ha.append (List.Sublist.refl _))

/-- own cells: another order, some forgotten -/
theorem W.ownSub {own' : Own} (h : W x L g μ own s) (hs : ∀ p ∈ own', p ∈ own) (hn : (own'.map (·.1)).Nodup) : W x L g μ own' s := { h with own := fun p hp => h.own p (hs p hp), nodup := hn }
theorem W.ownPerm {own' : Own} (h : W x L g μ own s) (hs : own'.Perm own) : W x L g μ own' s := h.ownSub (fun p hp => hs.mem_iff.mp hp) ((hs.map _).nodup_iff.mpr h.nodup)
theorem W.drop {p : Addr × Cell} (h : W x L g μ (p :: own) s) : W x L g μ own s := h.ownSub (fun _ hq => List.mem_cons_of_mem _ hq) (List.nodup_cons.mp h.nodup).2
theorem W.muSub {μ' : Mu} (h : W x L g μ own s) (hs : ∀ y d, μ'.get y = some d → μ.get y = some d) : W x L g μ' own s := { h with ns := let ⟨m, h1, h2⟩ := h.ns; ⟨m, h1, fun y d e => h2 y d (hs y d e)⟩ }

/-- behind a call that keeps all, or all but what was lent -/
theorem W.call (h : W x L g μ own s) (e : Ext none g s g' s') : W x L g' μ own s' where
  tf := h.tf
  room := h.room
  ext := ⟨fun a o e' hl => e.keep a o (h.ext.keep a o e' hl) nofun, Nat.le_trans h.ext.size e.size, e.gens.trans h.ext.gens, e.os.trans h.ext.os, h.ext.gg.trans e.gg, e.gh,
    fun a ha => (e.gn a ha).elim (h.ext.gn a) fun hs => .inr (Nat.le_trans h.ext.size hs)⟩
  tb := h.tb
  top := fun a o e' => e.keep a o (h.top a o e') nofun
  ns := let ⟨m, h1, h2⟩ := h.ns; ⟨m, h1.keeps (fun a o e' => e.keep a o e' nofun), fun y d e' => let ⟨v, p, q⟩ := h2 y d e'; ⟨v, p, q.mono e.gg⟩⟩
  Lb := h.Lb
  gL := by
    cases hg : g' L with
    | none => rfl
    | some o =>
      rcases e.gn L (by rw [hg]; nofun) with h1 | h1
      · exact absurd h.gL h1
      · exact absurd h.Llt (Nat.not_lt.mpr h1)
  own := fun p hp => let ⟨a, b, c, d, f⟩ := h.own p hp; ⟨a.mono e.gg (fun o e' => e.keep p.1 o e' nofun), b, c, d, by
    cases hg : g' p.1 with
    | none => rfl
    | some o =>
      rcases e.gn p.1 (by rw [hg]; nofun) with h1 | h1
      · exact absurd f h1
      · exact absurd (h.ownlt hp) (Nat.not_lt.mpr h1)⟩
  nodup := h.nodup
  lentT := h.lentT

theorem W.callLent {a : Addr} {c c' : Cell} (h : W x L g μ ((a, c) :: own) s) (e : Ext (some a) g s g' s') (hc : CellIs g' s'.heap a c') : W x L g' μ ((a, c') :: own) s' := by
  obtain ⟨hca, hat, hnew, haL, hga⟩ := h.own _ List.mem_cons_self
  have hnd := h.nodup
  rw [List.map_cons, List.nodup_cons] at hnd
  have ne : ∀ {b : Addr}, b ≠ a → (some a : Option Addr) ≠ some b := fun hb hh => hb (Option.some.inj hh).symm
  refine ⟨h.tf, h.room, ⟨fun b o e' hl => ?_, Nat.le_trans h.ext.size e.size, e.gens.trans h.ext.gens, e.os.trans h.ext.os, h.ext.gg.trans e.gg, e.gh,
    fun b hb => (e.gn b hb).elim (h.ext.gn b) fun hs => .inr (Nat.le_trans h.ext.size hs)⟩, h.tb, fun b o e' => ?_, ?_, h.Lb, ?_, fun p hp => ?_, h.nodup, h.lentT⟩
  · refine e.keep b o (h.ext.keep b o e' hl) (ne fun ea => ?_)
    subst ea
    rcases hnew with hn | hn
    · exact absurd (Heap.lt_size e') (Nat.not_lt.mpr hn)
    · exact hl hn
  · refine e.keep b o (h.top b o e') (ne fun ea => ?_)
    subst ea
    exact absurd (Heap.lt_size e') (Nat.not_lt.mpr hat)
  · obtain ⟨m, ⟨o, es, ep, e1, e2⟩, h2⟩ := h.ns
    exact ⟨m, ⟨o, es, ep, e.keep _ _ e1 (ne (Ne.symm haL)), e2⟩, fun y d e' => let ⟨v, p, q⟩ := h2 y d e'; ⟨v, p, q.mono e.gg⟩⟩
  · cases hg : g' L with
    | none => rfl
    | some o =>
      rcases e.gn L (by rw [hg]; nofun) with h1 | h1
      · exact absurd h.gL h1
      · exact absurd h.Llt (Nat.not_lt.mpr h1)
  · have gnone : ∀ {b : Addr}, g b = none → b < s.heap.objs.size → g' b = none := fun {b} f hlt => by
      cases hg : g' b with
      | none => rfl
      | some o =>
        rcases e.gn b (by rw [hg]; nofun) with h1 | h1
        · exact absurd f h1
        · exact absurd hlt (Nat.not_lt.mpr h1)
    rcases List.mem_cons.mp hp with rfl | hp
    · exact ⟨hc, hat, hnew, haL, gnone hga (h.ownlt (p := (a, c)) List.mem_cons_self)⟩
    · obtain ⟨a1, b, c, d, f⟩ := h.own _ (List.mem_cons_of_mem _ hp)
      exact ⟨a1.mono e.gg (fun o e' => e.keep p.1 o e' (ne fun ea => hnd.1 (List.mem_map.mpr ⟨p, hp, ea⟩))), b, c, d, gnone f (h.ownlt (List.mem_cons_of_mem _ hp))⟩

/-- an own list that was made here is frozen -/
theorem W.freeze {a : Addr} {ds : List D} (h : W x L g μ ((a, .lst ds) :: own) s) (hne : x.lent ≠ some a) : ∃ g', W x L g' μ own s ∧ G.le g g' ∧ Rep g' (.list ds) (.ref a) := by
  obtain ⟨⟨vs, n, h1, h2⟩, hat, hnew, haL, hga⟩ := h.own _ List.mem_cons_self
  have hnd := h.nodup
  rw [List.map_cons, List.nodup_cons] at hnd
  refine ⟨g.add a (LObj vs n), h.drop.freezeG h1 (hnew.elim id fun e => absurd e hne) haL (fun p hp ea => hnd.1 (List.mem_map.mpr ⟨p, hp, ea⟩)) hga, G.add_le _ hga, ?_⟩
  rw [Rep]
  exact ⟨a, vs, n, rfl, G.add_self .., h2.mono (G.add_le _ hga)⟩
end

end Fill66
end
noncomputable section
open PySem PySem.W PyProof.Rows
namespace Fill66

def EV (x : Cx) (env : Env) (μ : Mu) (own : Own) (e : Expr) (P : D → Own → Prop) : Prop :=
  ∀ (fr : Own) (g : G) (s : Shared) (Q : Value → Shared → Prop) (E : Value → Shared → Prop), W x env.locals g μ (own ++ fr) s →
    (∀ d v own' g' s', W x env.locals g' μ (own' ++ fr) s' → G.le g g' → Rep g' d v → P d own' → Q v s') → wpAny (model x.prog x.w) x.A (eval e env) Q E s

/-- a list of arguments -/
def AR (x : Cx) (env : Env) (μ : Mu) (own : Own) (es : List Expr) (P : List D → Own → Prop) : Prop :=
  ∀ (fr : Own) (pos : Pos) (g : G) (s : Shared) (Q : List Value → Shared → Prop) (E : Value → Shared → Prop), W x env.locals g μ (own ++ fr) s →
    (∀ ds vs own' g' s', W x env.locals g' μ (own' ++ fr) s' → G.le g g' → RepL g' ds vs → P ds own' → Q vs s') → wpAny (model x.prog x.w) x.A (spliced (backTo pos (starEach es env))) Q E s

/-- a test -/
def TS (x : Cx) (env : Env) (μ : Mu) (own : Own) (e : Expr) (P : Bool → Own → Prop) : Prop :=
  ∀ (fr : Own) (g : G) (s : Shared) (Q : Bool → Shared → Prop) (E : Value → Shared → Prop), W x env.locals g μ (own ++ fr) s →
    (∀ b own' g' s', W x env.locals g' μ (own' ++ fr) s' → G.le g g' → P b own' → Q b s') → wpAny (model x.prog x.w) x.A (isTrue e env (eval e env)) Q E s

def TA (x : Cx) (env : Env) (μ : Mu) (own : Own) (op : BoolOp) (es : List Expr) (P : Bool → Own → Prop) : Prop :=
  ∀ (fr : Own) (g : G) (s : Shared) (Q : Bool → Shared → Prop) (E : Value → Shared → Prop), W x env.locals g μ (own ++ fr) s →
    (∀ b own' g' s', W x env.locals g' μ (own' ++ fr) s' → G.le g g' → P b own' → Q b s') → wpAny (model x.prog x.w) x.A (allTrue op es env) Q E s

inductive FlowD where
  | next | brk | cont
  | ret (d : D)

def RepF (g : G) : FlowD → Flow → Prop
  | .next, f => f = .next
  | .brk, f => f = .brk
  | .cont, f => f = .cont
  | .ret d, f => ∃ v, f = .ret v ∧ Rep g d v

def EX (x : Cx) (env : Env) (μ : Mu) (own : Own) (st : List Stmt) (P : FlowD → Mu → Own → Prop) : Prop :=
  ∀ (fr : Own) (g : G) (s : Shared) (Q : Flow → Shared → Prop) (E : Value → Shared → Prop), W x env.locals g μ (own ++ fr) s →
    (∀ fd f μ' own' g' s', W x env.locals g' μ' (own' ++ fr) s' → G.le g g' → RepF g' fd f → P fd μ' own' → Q f s') → wpAny (model x.prog x.w) x.A (execs st env) Q E s

def EX1 (x : Cx) (env : Env) (μ : Mu) (own : Own) (st : Stmt) (P : FlowD → Mu → Own → Prop) : Prop :=
  ∀ (fr : Own) (g : G) (s : Shared) (Q : Flow → Shared → Prop) (E : Value → Shared → Prop), W x env.locals g μ (own ++ fr) s →
    (∀ fd f μ' own' g' s', W x env.locals g' μ' (own' ++ fr) s' → G.le g g' → RepF g' fd f → P fd μ' own' → Q f s') → wpAny (model x.prog x.w) x.A (exec st env) Q E s

/-- a target takes a value -/
def AS (x : Cx) (env : Env) (μ : Mu) (own : Own) (target : Expr) (d : D) (P : Mu → Own → Prop) : Prop :=
  ∀ (fr : Own) (g : G) (s : Shared) (v : Value) (Q : Unit → Shared → Prop) (E : Value → Shared → Prop), W x env.locals g μ (own ++ fr) s → Rep g d v →
    (∀ μ' own' g' s', W x env.locals g' μ' (own' ++ fr) s' → G.le g g' → P μ' own' → Q () s') → wpAny (model x.prog x.w) x.A (assign target env v) Q E s

section
variable {x : Cx} {env : Env} {μ : Mu} {own : Own}

theorem EV.mono {e : Expr} {P P' : D → Own → Prop} (h : EV x env μ own e P) (hp : ∀ d o, P d o → P' d o) : EV x env μ own e P' :=
  fun fr g s Q E w k => h fr g s Q E w fun d v o g' s' w' hl r p => k d v o g' s' w' hl r (hp _ _ p)
theorem EX.mono {st : List Stmt} {P P' : FlowD → Mu → Own → Prop} (h : EX x env μ own st P) (hp : ∀ fd μ o, P fd μ o → P' fd μ o) : EX x env μ own st P' :=
  fun fr g s Q E w k => h fr g s Q E w fun fd f μ' o g' s' w' hl r p => k fd f μ' o g' s' w' hl r (hp _ _ _ p)

theorem EV.int {i : Int} {k pos} {P : D → Own → Prop} (h : P (.int i) own) : EV x env μ own (.Constant (.int i) k pos) P :=
  fun fr g s Q E w kk => wpAny_Constant_int (kk (.int i) _ own g _ (w.toks _) (G.le.refl g) (by rw [Rep]; exact ⟨_, rfl⟩) h)
theorem EV.str {y : Str} {k pos} {P : D → Own → Prop} (h : P (.str y) own) : EV x env μ own (.Constant (.str y) k pos) P :=
  fun fr g s Q E w kk => Calls.Constant_str (kk (.str y) _ own g _ (w.toks _) (G.le.refl g) (by rw [Rep]; exact ⟨_, rfl⟩) h)
theorem EV.bool {b : Bool} {k pos} {P : D → Own → Prop} (h : P (.bool b) own) : EV x env μ own (.Constant (.bool b) k pos) P :=
  fun fr g s Q E w kk => wpAny_Constant_bool (kk (.bool b) _ own g _ w (G.le.refl g) (by rw [Rep]) h)

theorem EV.name {nm : Str} {pos : Pos} {d : D} {P : D → Own → Prop} (hm : μ.get nm = some d) (h : P d own)
    (hk : env.scope.kind = .function := by rfl) (hl : env.kindOf nm = some .local := by rfl) (hd : (nm == ("__debug__" : Str)) = false := by decide) : EV x env μ own (.Name nm pos) P :=
  fun fr g s Q E w kk => by
    obtain ⟨m, hn, hr⟩ := w.ns
    obtain ⟨v, hv, r⟩ := hr _ _ hm
    exact wpAny_Name (wpAny_loadName_local hk hl hn hv (kk d v own g s w (G.le.refl g) r h)) hd

theorem EV.globInt {nm : Str} {pos : Pos} {i : Int} {P : D → Own → Prop} (hv : topInt nm = some i) (h : P (.int i) own)
    (hg : env.globals = mainGlobals := by rfl) (hk : env.scope.kind = .function := by rfl) (hl : env.kindOf nm = some .globalImplicit := by rfl) (hd : (nm == ("__debug__" : Str)) = false := by decide) : EV x env μ own (.Name nm pos) P :=
  fun fr g s Q E w kk => let ⟨_, hv⟩ := w.tf.int nm i hv; Calls.Name_function_global hk hl (Calls.loadGlobal_global (by rw [hg]; exact w.tf.g.keeps w.top) hv (kk (.int i) _ own g s w (G.le.refl g) (by rw [Rep]; exact ⟨_, rfl⟩) h)) hd
theorem EV.builtin {nm : Str} {pos : Pos} {v : Value} {P : D → Own → Prop} (hm : freeName nm = true) (hv : bootBuiltins nm = some v) (h : P (.raw v) own)
    (hg : env.globals = mainGlobals := by rfl) (hb : env.builtins = builtinsNs := by rfl) (hk : env.scope.kind = .function := by rfl) (hl : env.kindOf nm = some .globalImplicit := by rfl) (hne : nm ≠ "__name__" := by decide) (hd : (nm == ("__debug__" : Str)) = false := by decide) :
    EV x env μ own (.Name nm pos) P :=
  fun fr g s Q E w kk => Calls.Name_function_global hk hl (Calls.loadGlobal_builtin (by rw [hg]; exact w.tf.g.keeps w.top) (w.tf.free nm hm) (by rw [hb]; exact w.tf.b.keeps w.top) ((w.tf.bl nm hne).trans hv) (kk (.raw v) v own g s w (G.le.refl g) (by rw [Rep]) h)) hd

/-- what an operation makes of two values -/
def OpOk (x : Cx) (t : Value → Value → Sem Value) (d₁ d₂ : D) (P : D → Prop) : Prop :=
  ∀ (L : Addr) (g : G) (μ : Mu) (own : Own) (s : Shared) (v₁ v₂ : Value) (Q : Value → Shared → Prop) (E : Value → Shared → Prop), W x L g μ own s → Rep g d₁ v₁ → Rep g d₂ v₂ →
    (∀ d v g' s', W x L g' μ own s' → G.le g g' → Rep g' d v → P d → Q v s') → wpAny (model x.prog x.w) x.A (t v₁ v₂) Q E s

theorem EV.binop {l r : Expr} {op : Operator} {pos : Pos} {P : D → Own → Prop}
    (h : EV x env μ own l fun d₁ o₁ => EV x env μ o₁ r fun d₂ o₂ => OpOk x (binaryOp op) d₁ d₂ fun d => P d o₂) : EV x env μ own (.BinOp l op r pos) P :=
  fun fr g s Q E w kk => wpAny_BinOp (h fr g s _ E w fun d₁ v₁ o₁ g₁ s₁ w₁ l₁ r₁ h₁ => h₁ fr g₁ s₁ _ E w₁ fun d₂ v₂ o₂ g₂ s₂ w₂ l₂ r₂ h₂ =>
    h₂ _ g₂ μ (o₂ ++ fr) s₂ v₁ v₂ Q E w₂ (r₁.mono l₂) r₂ fun d v g' s' w' l' r' p => kk d v o₂ g' s' w' (l₁.trans (l₂.trans l')) r' p)

theorem EV.cmp {l r : Expr} {op : CmpOp} {pos : Pos} {P : D → Own → Prop}
    (h : EV x env μ own l fun d₁ o₁ => EV x env μ o₁ r fun d₂ o₂ => OpOk x (compareOp op) d₁ d₂ fun d => P d o₂) (hm : behindInMarks op r = false := by with_unfolding_all rfl) : EV x env μ own (.Compare l [op] [r] pos) P :=
  fun fr g s Q E w kk => wpAny_Compare1 (hm := hm) (h fr g s _ E w fun d₁ v₁ o₁ g₁ s₁ w₁ l₁ r₁ h₁ => h₁ fr g₁ s₁ _ E w₁ fun d₂ v₂ o₂ g₂ s₂ w₂ l₂ r₂ h₂ =>
    h₂ _ g₂ μ (o₂ ++ fr) s₂ v₁ v₂ Q E w₂ (r₁.mono l₂) r₂ fun d v g' s' w' l' r' p => kk d v o₂ g' s' w' (l₁.trans (l₂.trans l')) r' p)

theorem TS.cmp {l r : Expr} {op : CmpOp} {pos : Pos} {P : Bool → Own → Prop}
    (h : EV x env μ own l fun d₁ o₁ => EV x env μ o₁ r fun d₂ o₂ => OpOk x (compareOp op) d₁ d₂ fun d => ∃ b, d = .bool b ∧ P b o₂) (hm : behindInMarks op r = false := by with_unfolding_all rfl) : TS x env μ own (.Compare l [op] [r] pos) P :=
  fun fr g s Q E w kk => wpAny_isTrue_Compare1 (hm := hm) (h fr g s _ E w fun d₁ v₁ o₁ g₁ s₁ w₁ l₁ r₁ h₁ => h₁ fr g₁ s₁ _ E w₁ fun d₂ v₂ o₂ g₂ s₂ w₂ l₂ r₂ h₂ =>
    h₂ _ g₂ μ (o₂ ++ fr) s₂ v₁ v₂ _ E w₂ (r₁.mono l₂) r₂ fun d v g' s' w' l' r' p => by
      obtain ⟨b, rfl, hp⟩ := p
      rw [Rep] at r'
      subst r'
      exact wpAny_truthy_bool (kk b o₂ g' s' w' (l₁.trans (l₂.trans l')) hp))

theorem TS.value {e : Expr} {P : Bool → Own → Prop} (h : EV x env μ own e fun d o => ∃ b, d = .bool b ∧ P b o)
    (he : isTrue e env (eval e env) = (do let v ← eval e env; standAt e.pos; holding [v] (truthy v)) := by rfl) : TS x env μ own e P :=
  fun fr g s Q E w kk => isTrue_plain (h fr g s _ E w fun d v o g' s' w' l' r' p => by
    obtain ⟨b, rfl, hp⟩ := p
    rw [Rep] at r'
    subst r'
    exact wpAny_truthy_bool (kk b o g' s' w' l' hp)) he

theorem TS.not {e : Expr} {pos : Pos} {P : Bool → Own → Prop} (h : TS x env μ own e fun b o => P (!b) o) : TS x env μ own (.UnaryOp .Not e pos) P :=
  fun fr g s Q E w kk => wpAny_isTrue_Not (h fr g s _ E w fun b o g' s' w' l' p => kk (!b) o g' s' w' l' p)

theorem TS.boolop {op : BoolOp} {es : List Expr} {pos : Pos} {P : Bool → Own → Prop} (h : TA x env μ own op es P) : TS x env μ own (.BoolOp op es pos) P :=
  fun fr g s Q E w kk => wpAny_isTrue_BoolOp (h fr g s Q E w kk)
theorem TA.andNil {P : Bool → Own → Prop} (h : P true own) : TA x env μ own .And [] P := fun fr g s Q E w kk => wpAny_allTrue_And_nil (kk true own g s w (G.le.refl g) h)
theorem TA.orNil {P : Bool → Own → Prop} (h : P false own) : TA x env μ own .Or [] P := fun fr g s Q E w kk => wpAny_allTrue_Or_nil (kk false own g s w (G.le.refl g) h)
theorem TA.and {e : Expr} {es : List Expr} {P : Bool → Own → Prop} (h : TS x env μ own e fun b o => (b = true → TA x env μ o .And es P) ∧ (b = false → P false o)) : TA x env μ own .And (e :: es) P :=
  fun fr g s Q E w kk => wpAny_allTrue_And_cons (h fr g s _ E w fun b o g' s' w' l' p => by
    cases b with
    | false => exact kk false o g' s' w' l' (p.2 rfl)
    | true => exact p.1 rfl fr g' s' Q E w' fun b o g'' s'' w'' l'' p => kk b o g'' s'' w'' (l'.trans l'') p)
theorem TA.or {e : Expr} {es : List Expr} {P : Bool → Own → Prop} (h : TS x env μ own e fun b o => (b = false → TA x env μ o .Or es P) ∧ (b = true → P true o)) : TA x env μ own .Or (e :: es) P :=
  fun fr g s Q E w kk => wpAny_allTrue_Or_cons (h fr g s _ E w fun b o g' s' w' l' p => by
    cases b with
    | true => exact kk true o g' s' w' l' (p.2 rfl)
    | false => exact p.1 rfl fr g' s' Q E w' fun b o g'' s'' w'' l'' p => kk b o g'' s'' w'' (l'.trans l'') p)

theorem EV.and2 {a b : Expr} {pos : Pos} {P : D → Own → Prop} (h : EV x env μ own a fun d o => ∃ c, d = .bool c ∧ (c = true → EV x env μ o b P) ∧ (c = false → P (.bool false) o)) : EV x env μ own (.BoolOp .And [a, b] pos) P :=
  fun fr g s Q E w kk => wpAny_And2 (h fr g s _ E w fun d v o g' s' w' l' r' p => by
    obtain ⟨c, rfl, h1, h2⟩ := p
    rw [Rep] at r'
    subst r'
    cases c with
    | true => exact wpAny_truthy_bool (h1 rfl fr g' s' Q E w' fun d v o g'' s'' w'' l'' r p => kk d v o g'' s'' w'' (l'.trans l'') r p)
    | false => exact wpAny_truthy_bool (kk (.bool false) _ o g' s' w' l' (by rw [Rep]) (h2 rfl)))
theorem EV.or2 {a b : Expr} {pos : Pos} {P : D → Own → Prop} (h : EV x env μ own a fun d o => ∃ c, d = .bool c ∧ (c = false → EV x env μ o b P) ∧ (c = true → P (.bool true) o)) : EV x env μ own (.BoolOp .Or [a, b] pos) P :=
  fun fr g s Q E w kk => wpAny_Or2 (h fr g s _ E w fun d v o g' s' w' l' r' p => by
    obtain ⟨c, rfl, h1, h2⟩ := p
    rw [Rep] at r'
    subst r'
    cases c with
    | false => exact wpAny_truthy_bool (h1 rfl fr g' s' Q E w' fun d v o g'' s'' w'' l'' r p => kk d v o g'' s'' w'' (l'.trans l'') r p)
    | true => exact wpAny_truthy_bool (kk (.bool true) _ o g' s' w' l' (by rw [Rep]) (h2 rfl)))
theorem EV.or3 {a b c : Expr} {pos : Pos} {P : D → Own → Prop} (h : EV x env μ own a fun d o => ∃ k, d = .bool k ∧ (k = false → EV x env μ o (.BoolOp .Or [b, c] pos) P) ∧ (k = true → P (.bool true) o)) : EV x env μ own (.BoolOp .Or [a, b, c] pos) P :=
  fun fr g s Q E w kk => by
    show wpAny _ _ (do
      let v ← eval a env
      standAt pos
      let t ← holding [v] (truthy v)
      match BoolOp.Or, t with
      | .And, false | .Or, true => pure v
      | _, _ => boolOp pos .Or [eval b env, eval c env]) Q E s
    refine wpAny_bind (h fr g s _ E w fun d v o g' s' w' l' r' p => wpAny_bind (wpAny_standAt (wpAny_bind (wpAny_holding ?_))))
    obtain ⟨k, rfl, h1, h2⟩ := p
    rw [Rep] at r'
    subst r'
    cases k with
    | true => exact wpAny_truthy_bool (wpAny_pure (kk (.bool true) _ o g' s' w' l' (by rw [Rep]) (h2 rfl)))
    | false => exact wpAny_truthy_bool (h1 rfl fr g' s' Q E w' fun d v o g'' s'' w'' l'' r p => kk d v o g'' s'' w'' (l'.trans l'') r p)

theorem EV.ifexp {t a b : Expr} {pos : Pos} {P : D → Own → Prop} (h : TS x env μ own t fun c o => (c = true → EV x env μ o a P) ∧ (c = false → EV x env μ o b P)) : EV x env μ own (.IfExp t a b pos) P :=
  fun fr g s Q E w kk => wpAny_IfExp (h fr g s _ E w fun c o g' s' w' l' p => by
    cases c with
    | true => exact p.1 rfl fr g' s' Q E w' fun d v o g'' s'' w'' l'' r p => kk d v o g'' s'' w'' (l'.trans l'') r p
    | false => exact p.2 rfl fr g' s' Q E w' fun d v o g'' s'' w'' l'' r p => kk d v o g'' s'' w'' (l'.trans l'') r p)

theorem AR.nil {P : List D → Own → Prop} (h : P [] own) : AR x env μ own [] P := fun fr pos g s Q E w kk => wpAny_items_nil (kk [] [] own g s w (G.le.refl g) RepL.nil h)
theorem AR.cons {e : Expr} {es : List Expr} {P : List D → Own → Prop} (h : EV x env μ own e fun d o => AR x env μ o es fun ds o' => P (d :: ds) o')
    (he : starEach (e :: es) env = (false, eval e env) :: starEach es env := by rfl) : AR x env μ own (e :: es) P :=
  fun fr pos g s Q E w kk => wpAny_items_cons (h fr g s _ E w fun d v o g' s' w' l' r' p => p fr pos g' s' _ E w' fun ds vs o' g'' s'' w'' l'' r'' p' => kk (d :: ds) (v :: vs) o' g'' s'' w'' (l'.trans l'') (RepL.cons (r'.mono l'') r'') p') he

theorem EV.tuple {es : List Expr} {k : Nat} {pos : Pos} {P : D → Own → Prop} (h : AR x env μ own es fun ds o => ds.length ≤ sizeLine ∧ P (.tup ds) o) : EV x env μ own (.Tuple es k pos) P :=
  fun fr g s Q E w kk => wpAny_Tuple (h fr pos g s _ E w fun ds vs o g' s' w' l' r' p => ⟨by rw [r'.length]; exact p.1, by
    have hn := w'.gsize (Nat.le_refl _)
    refine kk (.tup ds) _ o _ _ w'.pushG (l'.trans (G.add_le _ hn)) ?_ p.2
    rw [Rep]
    exact ⟨_, vs, 0, rfl, G.add_self .., r'.mono (G.add_le _ hn)⟩⟩)
/-- a list display, frozen at once -/
theorem EV.list {es : List Expr} {pos : Pos} {P : D → Own → Prop} (h : AR x env μ own es fun ds o => ds.length ≤ sizeLine ∧ P (.list ds) o) : EV x env μ own (.List es pos) P :=
  fun fr g s Q E w kk => wpAny_List (h fr pos g s _ E w fun ds vs o g' s' w' l' r' p => ⟨by rw [r'.length]; exact p.1, by
    have hn := w'.gsize (Nat.le_refl _)
    refine kk (.list ds) _ o _ _ w'.pushG (l'.trans (G.add_le _ hn)) ?_ p.2
    rw [Rep]
    exact ⟨_, vs, 0, rfl, G.add_self .., r'.mono (G.add_le _ hn)⟩⟩)
/-- a list display, own -/
theorem EV.listOwn {es : List Expr} {pos : Pos} {P : D → Own → Prop} (h : AR x env μ own es fun ds o => ds.length ≤ sizeLine ∧ ∀ a, (∀ p ∈ o, p.1 ≠ a) → x.lent ≠ some a → P (.mut a) ((a, .lst ds) :: o)) : EV x env μ own (.List es pos) P :=
  fun fr g s Q E w kk => wpAny_List (h fr pos g s _ E w fun ds vs o g' s' w' l' r' p => ⟨by rw [r'.length]; exact p.1, by
    refine kk (.mut s'.heap.objs.size) _ _ g' _ (w'.pushOwn (c := .lst ds) ⟨vs, 0, Heap.get?_push_size _ rfl, r'⟩) l' (by rw [Rep]) (p.2 _ (fun q hq => Nat.ne_of_lt (w'.ownlt (List.mem_append_left _ hq))) fun e => ?_)
    have := (w'.lentT _ e).2
    exact absurd (Nat.lt_of_lt_of_le this w'.ext.size) (Nat.lt_irrefl _)⟩)
end

end Fill66
end
noncomputable section
open PySem PySem.W PyProof.Rows
set_option maxRecDepth 100000
namespace Fill66

section
variable {x : Cx} {env : Env} {μ : Mu} {own : Own}

theorem Rep.int' {g : G} {i : Int} (t : Tok) : Rep g (.int i) (.int i t) := by rw [Rep]; exact ⟨t, rfl⟩
theorem Rep.str' {g : G} {y : Str} (t : Tok) : Rep g (.str y) (.str y t) := by rw [Rep]; exact ⟨t, rfl⟩
theorem Rep.bool' {g : G} {b : Bool} : Rep g (.bool b) (.bool b) := by rw [Rep]
theorem Rep.none' {g : G} : Rep g .none .none := by rw [Rep]

def dI (l : List Int) : List D := l.map .int
theorem RepL.intsAre {g : G} : ∀ {l : List Int} {vs : List Value}, RepL g (dI l) vs → IntsAre vs l
  | [], vs, h => by rw [dI, List.map_nil, RepL] at h; subst h; exact .nil
  | i :: l, vs, h => by
    rw [dI, List.map_cons, RepL] at h
    obtain ⟨v, r, rfl, h1, h2⟩ := h
    rw [Rep] at h1
    obtain ⟨t, rfl⟩ := h1
    exact .cons i t (RepL.intsAre h2)

theorem W.isL {L : Addr} {g : G} {s : Shared} {a : Addr} {vs : List Value} {n : Nat} (w : W x L g μ own s) (h : g a = some (LObj vs n)) : IsL s.heap a vs.toArray n := w.ext.gh a _ h

theorem OpOk.add_int {a b : Int} {P : D → Prop} (h : P (.int (a + b))) : OpOk x (binaryOp .Add) (.int a) (.int b) P := fun L g μ own s v₁ v₂ Q E w r₁ r₂ kk => by
  rw [Rep] at r₁; rw [Rep] at r₂; obtain ⟨t, rfl⟩ := r₁; obtain ⟨u, rfl⟩ := r₂
  exact PySem.P.add_int (kk _ _ g _ (w.toks _) (G.le.refl g) (Rep.int' _) h)
theorem OpOk.sub_int {a b : Int} {P : D → Prop} (h : P (.int (a - b))) : OpOk x (binaryOp .Sub) (.int a) (.int b) P := fun L g μ own s v₁ v₂ Q E w r₁ r₂ kk => by
  rw [Rep] at r₁; rw [Rep] at r₂; obtain ⟨t, rfl⟩ := r₁; obtain ⟨u, rfl⟩ := r₂
  exact PySem.P.sub_int (kk _ _ g _ (w.toks _) (G.le.refl g) (Rep.int' _) h)
theorem OpOk.mul_int {a b : Int} {P : D → Prop} (hm : IntMulOk a b) (h : P (.int (a * b))) : OpOk x (binaryOp .Mult) (.int a) (.int b) P := fun L g μ own s v₁ v₂ Q E w r₁ r₂ kk => by
  rw [Rep] at r₁; rw [Rep] at r₂; obtain ⟨t, rfl⟩ := r₁; obtain ⟨u, rfl⟩ := r₂
  exact PySem.P.mul_int (hm := hm) (kk _ _ g _ (w.toks _) (G.le.refl g) (Rep.int' _) h)
theorem OpOk.mod_int {a b : Int} {P : D → Prop} (hb : b ≠ 0) (h : P (.int (a.fmod b))) : OpOk x (binaryOp .Mod) (.int a) (.int b) P := fun L g μ own s v₁ v₂ Q E w r₁ r₂ kk => by
  rw [Rep] at r₁; rw [Rep] at r₂; obtain ⟨t, rfl⟩ := r₁; obtain ⟨u, rfl⟩ := r₂
  exact PyProof.Rows.mod_int' hb (kk _ _ g _ (w.toks _) (G.le.refl g) (Rep.int' _) h)
theorem OpOk.div_int {a b : Int} {P : D → Prop} (hb : b ≠ 0) (hs : Builtin.divisionGoesByPylong a b = false) (h : P (.int (a.fdiv b))) : OpOk x (binaryOp .FloorDiv) (.int a) (.int b) P := fun L g μ own s v₁ v₂ Q E w r₁ r₂ kk => by
  rw [Rep] at r₁; rw [Rep] at r₂; obtain ⟨t, rfl⟩ := r₁; obtain ⟨u, rfl⟩ := r₂
  exact PyProof.Rows.floordiv_int (hp := .inl hs) hb (kk _ _ g _ (w.toks _) (G.le.refl g) (Rep.int' _) h)

theorem OpOk.eq_int {a b : Int} {P : D → Prop} (h : P (.bool (a == b))) : OpOk x (compareOp .Eq) (.int a) (.int b) P := fun L g μ own s v₁ v₂ Q E w r₁ r₂ kk => by
  rw [Rep] at r₁; rw [Rep] at r₂; obtain ⟨t, rfl⟩ := r₁; obtain ⟨u, rfl⟩ := r₂
  exact PySem.P.eq_int (kk _ _ g _ w (G.le.refl g) Rep.bool' h)
theorem OpOk.ne_int {a b : Int} {P : D → Prop} (h : P (.bool (a != b))) : OpOk x (compareOp .NotEq) (.int a) (.int b) P := fun L g μ own s v₁ v₂ Q E w r₁ r₂ kk => by
  rw [Rep] at r₁; rw [Rep] at r₂; obtain ⟨t, rfl⟩ := r₁; obtain ⟨u, rfl⟩ := r₂
  exact PySem.P.ne_int (kk _ _ g _ w (G.le.refl g) Rep.bool' h)
theorem OpOk.lt_int {a b : Int} {P : D → Prop} (h : P (.bool (decide (a < b)))) : OpOk x (compareOp .Lt) (.int a) (.int b) P := fun L g μ own s v₁ v₂ Q E w r₁ r₂ kk => by
  rw [Rep] at r₁; rw [Rep] at r₂; obtain ⟨t, rfl⟩ := r₁; obtain ⟨u, rfl⟩ := r₂
  exact PySem.P.lt_int (kk _ _ g _ w (G.le.refl g) Rep.bool' h)
theorem OpOk.le_int {a b : Int} {P : D → Prop} (h : P (.bool (decide (a ≤ b)))) : OpOk x (compareOp .LtE) (.int a) (.int b) P := fun L g μ own s v₁ v₂ Q E w r₁ r₂ kk => by
  rw [Rep] at r₁; rw [Rep] at r₂; obtain ⟨t, rfl⟩ := r₁; obtain ⟨u, rfl⟩ := r₂
  exact PySem.P.le_int (kk _ _ g _ w (G.le.refl g) Rep.bool' h)
theorem OpOk.gt_int {a b : Int} {P : D → Prop} (h : P (.bool (decide (b < a)))) : OpOk x (compareOp .Gt) (.int a) (.int b) P := fun L g μ own s v₁ v₂ Q E w r₁ r₂ kk => by
  rw [Rep] at r₁; rw [Rep] at r₂; obtain ⟨t, rfl⟩ := r₁; obtain ⟨u, rfl⟩ := r₂
  exact PySem.P.gt_int (kk _ _ g _ w (G.le.refl g) Rep.bool' h)
theorem OpOk.ge_int {a b : Int} {P : D → Prop} (h : P (.bool (decide (b ≤ a)))) : OpOk x (compareOp .GtE) (.int a) (.int b) P := fun L g μ own s v₁ v₂ Q E w r₁ r₂ kk => by
  rw [Rep] at r₁; rw [Rep] at r₂; obtain ⟨t, rfl⟩ := r₁; obtain ⟨u, rfl⟩ := r₂
  exact PySem.P.ge_int (kk _ _ g _ w (G.le.refl g) Rep.bool' h)
theorem OpOk.eq_str {a b : Str} {P : D → Prop} (h : P (.bool (a == b))) : OpOk x (compareOp .Eq) (.str a) (.str b) P := fun L g μ own s v₁ v₂ Q E w r₁ r₂ kk => by
  rw [Rep] at r₁; rw [Rep] at r₂; obtain ⟨t, rfl⟩ := r₁; obtain ⟨u, rfl⟩ := r₂
  exact PyProof.Rows.eq_str (kk _ _ g _ w (G.le.refl g) Rep.bool' h)
theorem OpOk.ne_str {a b : Str} {P : D → Prop} (h : P (.bool (a != b))) : OpOk x (compareOp .NotEq) (.str a) (.str b) P := fun L g μ own s v₁ v₂ Q E w r₁ r₂ kk => by
  rw [Rep] at r₁; rw [Rep] at r₂; obtain ⟨t, rfl⟩ := r₁; obtain ⟨u, rfl⟩ := r₂
  exact PyProof.Rows.ne_str (kk _ _ g _ w (G.le.refl g) Rep.bool' h)
theorem OpOk.add_str {a b : Str} {P : D → Prop} (hsz : a.length + b.length ≤ sizeLine) (h : P (.str (a ++ b))) : OpOk x (binaryOp .Add) (.str a) (.str b) P := fun L g μ own s v₁ v₂ Q E w r₁ r₂ kk => by
  rw [Rep] at r₁; rw [Rep] at r₂; obtain ⟨t, rfl⟩ := r₁; obtain ⟨u, rfl⟩ := r₂
  exact PyProof.Rows.add_str (hsz := hsz) fun t' tk => kk _ _ g _ (w.toks _) (G.le.refl g) (Rep.str' _) h

def isI (a : Int) : Value → Bool
  | .int i _ => i == a
  | _ => false
theorem isI_gives {a : Int} {t : Tok} : ∀ {vs : List Value} {l : List Int}, IntsAre vs l → (∀ y ∈ vs, MeetsSeq.EqGives y (.int a t) (isI a y)) ∧ vs.any (isI a) = l.contains a
  | _, _, .nil => ⟨nofun, rfl⟩
  | _, _, .cons i u h => by
    obtain ⟨h1, h2⟩ := isI_gives (t := t) h
    refine ⟨fun y hy => ?_, ?_⟩
    · rcases List.mem_cons.mp hy with rfl | hy
      · exact MeetsSeq.EqGives.int _ _ _ _
      · exact h1 y hy
    · rw [List.any_cons, h2, List.contains_cons]
      show (i == a || _) = (a == i || _)
      rw [Bool.beq_comm]

/-- x in a tuple or list of ints -/
theorem OpOk.in_list {a : Int} {l : List Int} {P : D → Prop} (h : P (.bool (l.contains a))) : OpOk x (compareOp .In) (.int a) (.list (dI l)) P := fun L g μ own s v₁ v₂ Q E w r₁ r₂ kk => by
  rw [Rep] at r₁; rw [Rep] at r₂; obtain ⟨t, rfl⟩ := r₁; obtain ⟨b, vs, n, rfl, hb, r⟩ := r₂
  obtain ⟨h1, h2⟩ := isI_gives (a := a) (t := t) r.intsAre
  exact SeqRoads2.in_list (isI a) (fun y hy => h1 y (by simpa using hy)) (w.isL hb) (kk _ _ g _ w (G.le.refl g) (by rw [List.any_toArray, h2]; exact Rep.bool') h)
theorem EV.inTop {l : Expr} {nm : Str} {pos pos' : Pos} {ls : List Int} {P : D → Own → Prop} (hv : topTup nm = some ls) (h : EV x env μ own l fun d o => ∃ i, d = .int i ∧ P (.bool (ls.contains i)) o)
    (hg : env.globals = mainGlobals := by rfl) (hk : env.scope.kind = .function := by rfl) (hl : env.kindOf nm = some .globalImplicit := by rfl) (hd : (nm == ("__debug__" : Str)) = false := by decide) (hm : behindInMarks .In (.Name nm pos') = false := by with_unfolding_all rfl) :
    EV x env μ own (.Compare l [.In] [.Name nm pos'] pos) P := fun fr g s Q E w kk =>
  wpAny_Compare1 (hm := hm) (h fr g s _ E w fun d v o g₁ s₁ w₁ l₁ r₁ p => by
    obtain ⟨i, rfl, hP⟩ := p
    rw [Rep] at r₁; obtain ⟨t, rfl⟩ := r₁
    obtain ⟨a, vs, n, h1, h2, h3⟩ := w₁.tf.tup nm ls hv
    refine Calls.Name_function_global hk hl (Calls.loadGlobal_global (by rw [hg]; exact w₁.tf.g.keeps w₁.top) h1 ?_) hd
    obtain ⟨h4, h5⟩ := isI_gives (a := i) (t := t) h3
    exact SeqRoads2.in_tuple (isI i) (fun y hy => h4 y (by simpa using hy)) (w₁.top _ _ h2) (kk _ _ o g₁ _ w₁ l₁ (by rw [List.any_toArray, h5]; exact Rep.bool') hP))
theorem TS.inTop {l : Expr} {nm : Str} {pos pos' : Pos} {ls : List Int} {P : Bool → Own → Prop} (hv : topTup nm = some ls) (h : EV x env μ own l fun d o => ∃ i, d = .int i ∧ P (ls.contains i) o)
    (hg : env.globals = mainGlobals := by rfl) (hk : env.scope.kind = .function := by rfl) (hl : env.kindOf nm = some .globalImplicit := by rfl) (hd : (nm == ("__debug__" : Str)) = false := by decide) (hm : behindInMarks .In (.Name nm pos') = false := by with_unfolding_all rfl) :
    TS x env μ own (.Compare l [.In] [.Name nm pos'] pos) P := fun fr g s Q E w kk =>
  wpAny_isTrue_Compare1 (hm := hm) (h fr g s _ E w fun d v o g₁ s₁ w₁ l₁ r₁ p => by
    obtain ⟨i, rfl, hP⟩ := p
    rw [Rep] at r₁; obtain ⟨t, rfl⟩ := r₁
    obtain ⟨a, vs, n, h1, h2, h3⟩ := w₁.tf.tup nm ls hv
    refine Calls.Name_function_global hk hl (Calls.loadGlobal_global (by rw [hg]; exact w₁.tf.g.keeps w₁.top) h1 ?_) hd
    obtain ⟨h4, h5⟩ := isI_gives (a := i) (t := t) h3
    refine SeqRoads2.in_tuple (isI i) (fun y hy => h4 y (by simpa using hy)) (w₁.top _ _ h2) ?_
    rw [List.any_toArray, h5]
    exact wpAny_truthy_bool (kk _ o g₁ s₁ w₁ l₁ hP))

theorem OpOk.eq_ints {a b : List Int} {P : D → Prop} (h : P (.bool (decide (a = b)))) : OpOk x (compareOp .Eq) (.list (dI a)) (.list (dI b)) P := fun L g μ own s v₁ v₂ Q E w r₁ r₂ kk => by
  rw [Rep] at r₁; rw [Rep] at r₂; obtain ⟨l1, vs, n, rfl, h1, i1⟩ := r₁; obtain ⟨l2, us, n2, rfl, h2, i2⟩ := r₂
  have hu := w.room.units
  exact eq_intsK (w.isL h1).isList i1.intsAre (w.isL h2).isList i2.intsAre (by have hc := cLine_is; simp only [hc] at hu ⊢; omega) (kk _ _ g _ w (G.le.refl g) Rep.bool' h)
theorem OpOk.ne_ints {a b : List Int} {P : D → Prop} (h : P (.bool (!decide (a = b)))) : OpOk x (compareOp .NotEq) (.list (dI a)) (.list (dI b)) P := fun L g μ own s v₁ v₂ Q E w r₁ r₂ kk => by
  rw [Rep] at r₁; rw [Rep] at r₂; obtain ⟨l1, vs, n, rfl, h1, i1⟩ := r₁; obtain ⟨l2, us, n2, rfl, h2, i2⟩ := r₂
  have hu := w.room.units
  exact ne_intsK (w.isL h1).isList i1.intsAre (w.isL h2).isList i2.intsAre (by have hc := cLine_is; simp only [hc] at hu ⊢; omega) (kk _ _ g _ w (G.le.refl g) Rep.bool' h)

/-- a list that was made just now is frozen -/
theorem W.newList {L : Addr} {g : G} {s : Shared} (w : W x L g μ own s) {ds : List D} {vs : List Value} (r : RepL g ds vs) : ∃ g', W x L g' μ own { s with heap := s.heap.push (LObj vs 0) } ∧ G.le g g' ∧ Rep g' (.list ds) (.ref s.heap.objs.size) := by
  have hn := w.gsize (Nat.le_refl _)
  refine ⟨_, w.pushG, G.add_le _ hn, ?_⟩
  rw [Rep]
  exact ⟨_, vs, 0, rfl, G.add_self .., r.mono (G.add_le _ hn)⟩

theorem OpOk.add_list {a b : List D} {P : D → Prop} (hsz : a.length + b.length ≤ sizeLine) (h : P (.list (a ++ b))) : OpOk x (binaryOp .Add) (.list a) (.list b) P := fun L g μ own s v₁ v₂ Q E w r₁ r₂ kk => by
  rw [Rep] at r₁; rw [Rep] at r₂; obtain ⟨l1, vs, n, rfl, h1, i1⟩ := r₁; obtain ⟨l2, us, n2, rfl, h2, i2⟩ := r₂
  refine PySem.P.add_list (w.isL h1) (w.isL h2) ?_ (by simp only [List.size_toArray, i1.length, i2.length]; exact hsz)
  obtain ⟨g', w', l', r'⟩ := w.newList (i1.append i2)
  have e : vs.toArray ++ us.toArray = (vs ++ us).toArray := by simp
  rw [e]
  exact kk _ _ g' _ w' l' r' h

theorem foldl_append_rep {α : Type} (xs : Array α) (k : Nat) : (List.replicate k xs).foldl (fun a b => a ++ b) #[] = (List.replicate k xs.toList).flatten.toArray := by
  have gen : ∀ (k : Nat) (acc : Array α), (List.replicate k xs).foldl (fun a b => a ++ b) acc = (acc.toList ++ (List.replicate k xs.toList).flatten).toArray := by
    intro k
    induction k with
    | zero => intro acc; simp
    | succ k ih => intro acc; rw [List.replicate_succ, List.foldl_cons, ih]; simp [List.replicate_succ]
  simpa using gen k #[]
/-- [c] * n -/
theorem OpOk.mul_one {c i : Int} {P : D → Prop} (hlo : -(2 ^ 63 : Int) ≤ i) (hhi : i ≤ 2 ^ 24) (h : P (.list (dI (List.replicate i.toNat c)))) : OpOk x (binaryOp .Mult) (.list (dI [c])) (.int i) P := fun L g μ own s v₁ v₂ Q E w r₁ r₂ kk => by
  rw [Rep] at r₁; rw [Rep] at r₂; obtain ⟨l1, vs, n, rfl, h1, i1⟩ := r₁; obtain ⟨u, rfl⟩ := r₂
  have hi := i1.intsAre
  cases hi with
  | cons _ t hr =>
    cases hr with
    | nil =>
      have hl : s.heap.get? l1 = some { cls := .type "list", dict := none, data := .seq #[Value.int c t] n, slots := #[] } := w.ext.gh _ _ h1
      refine wpAny_binaryOp_repeat_ref (T := "list") (U := "int") (by decide) ⟨_, hl, rfl⟩ (fun s' => typeIs_int s' i u) noFill_list_mul PySem.F.fills_int_mul PySem.F.slot_int_rmul repeat_list PySem.F.slot_int_index.lookup
        (call_meets PySem.F.slot_int_rmul (typeIs_int s i u) PySem.F.entry_int_rmul (PySem.F.args_int_rmul_2 _ _) (int___rmul___int_list i u l1 #[Value.int c t] n)
          ⟨hl, rfl, ⟨_, hl, rfl⟩, call_meets PySem.F.slot_list_mul ⟨_, hl, rfl⟩ PySem.F.entry_list_mul (PySem.F.args_list_mul_2 _ _)
            (AutoListH.list___mul___list_int_3 l1 #[Value.int c t] n i u (by simp [Builtin.List.listFitsIndex]; omega) (by have h1 : (#[Value.int c t] : Array Value).size = 1 := rfl; rw [h1]; omega) (by simp [Builtin.List.listTooLong, sizeLine]; omega))
            ⟨hl, ?_⟩⟩)
      have e : (List.foldl (fun x1 x2 => x1 ++ x2) #[] (List.replicate (if (#[Value.int c t] : Array Value).isEmpty = true then 0 else i.toNat) #[Value.int c t])) = (List.replicate i.toNat (Value.int c t)).toArray := by
        rw [if_neg (by simp), foldl_append_rep]
        congr 1
        generalize i.toNat = k
        induction k with
        | zero => rfl
        | succ k ih => simp [List.replicate_succ, List.flatten_cons] at ih ⊢
      have rr : RepL g (dI (List.replicate i.toNat c)) (List.replicate i.toNat (Value.int c t)) := by
        generalize i.toNat = k
        induction k with
        | zero => exact RepL.nil
        | succ k ih => exact RepL.cons (Rep.int' t) ih
      obtain ⟨g', w', l', r'⟩ := w.newList rr
      rw [e]
      exact kk _ _ g' _ w' l' r' h
end

end Fill66
end
noncomputable section
open PySem PySem.W PyProof.Rows
set_option maxRecDepth 100000
namespace Fill66

/-- a call by values -/
def CallOk (x : Cx) (own : Own) (f : Value) (ds : List D) (P : D → Prop) : Prop :=
  ∀ (L : Addr) (g : G) (μ : Mu) (fr : Own) (s : Shared) (vs : List Value) (Q : Value → Shared → Prop) (E : Value → Shared → Prop), W x L g μ (own ++ fr) s → RepL g ds vs →
    (∀ d v g' s', W x L g' μ (own ++ fr) s' → G.le g g' → Rep g' d v → P d → Q v s') → wpAny (model x.prog x.w) x.A (call f vs) Q E s

theorem Rep.intI {g : G} {i : Int} {v : Value} (h : Rep g (.int i) v) : ∃ t, v = .int i t := by rw [Rep] at h; exact h
theorem Rep.strI {g : G} {y : Str} {v : Value} (h : Rep g (.str y) v) : ∃ t, v = .str y t := by rw [Rep] at h; exact h
theorem Rep.boolI {g : G} {b : Bool} {v : Value} (h : Rep g (.bool b) v) : v = .bool b := by rw [Rep] at h; exact h
theorem Rep.noneI {g : G} {v : Value} (h : Rep g .none v) : v = .none := by rw [Rep] at h; exact h
theorem Rep.rawI {g : G} {u v : Value} (h : Rep g (.raw u) v) : v = u := by rw [Rep] at h; exact h
theorem Rep.mutI {g : G} {a : Addr} {v : Value} (h : Rep g (.mut a) v) : v = .ref a := by rw [Rep] at h; exact h
theorem Rep.listI {g : G} {l : List D} {v : Value} (h : Rep g (.list l) v) : ∃ a vs n, v = .ref a ∧ g a = some (LObj vs n) ∧ RepL g l vs := by rw [Rep] at h; exact h
theorem Rep.tupI {g : G} {l : List D} {v : Value} (h : Rep g (.tup l) v) : ∃ a vs n, v = .ref a ∧ g a = some (TObj vs n) ∧ RepL g l vs := by rw [Rep] at h; exact h

theorem RepL.one {g : G} {d : D} {vs : List Value} (h : RepL g [d] vs) : ∃ v, vs = [v] ∧ Rep g d v := by
  rw [RepL] at h; obtain ⟨v, r, rfl, h1, h2⟩ := h; rw [RepL] at h2; subst h2; exact ⟨v, rfl, h1⟩
theorem RepL.two {g : G} {d e : D} {vs : List Value} (h : RepL g [d, e] vs) : ∃ v u, vs = [v, u] ∧ Rep g d v ∧ Rep g e u := by
  rw [RepL] at h; obtain ⟨v, r, rfl, h1, h2⟩ := h; obtain ⟨u, rfl, h3⟩ := h2.one; exact ⟨v, u, rfl, h1, h3⟩

section
variable {x : Cx} {env : Env} {μ : Mu} {own : Own}

theorem EV.callB {nm : Str} {id : String} {pos pos' : Pos} {e : Expr} {es : List Expr} {P : D → Own → Prop} (hm : freeName nm = true) (hv : bootBuiltins nm = some (.builtin id))
    (h : AR x env μ own (e :: es) fun ds o => CallOk x o (.builtin id) ds fun d => P d o)
    (hg : env.globals = mainGlobals := by rfl) (hb : env.builtins = builtinsNs := by rfl) (hk : env.scope.kind = .function := by rfl) (hl : env.kindOf nm = some .globalImplicit := by rfl) (hne : nm ≠ "__name__" := by decide) (hd : (nm == ("__debug__" : Str)) = false := by decide)
    (he : eval (.Call (.Name nm pos) (e :: es) [] pos') env = (do callWith pos' (← eval (.Name nm pos) env) [] (backTo pos' (starEach (e :: es) env)) (backToKw pos' (keywordEach [] env))) := by rfl)
    (hs : starEach (e :: es) env = (false, eval e env) :: starEach es env := by rfl) (hplain : (backTo pos' (starEach es env)).any (·.1) = false := by rfl) :
    EV x env μ own (.Call (.Name nm pos) (e :: es) [] pos') P := fun fr g s Q E w kk => by
  refine PyProof.Rows.Call_ ?_ he
  refine (EV.builtin (P := fun d o => d = .raw (.builtin id) ∧ o = own) hm hv ⟨rfl, rfl⟩ hg hb hk hl hne hd) fr g s _ E w fun d v o g₁ s₁ w₁ l₁ r₁ h₁ => ?_
  obtain ⟨rfl, rfl⟩ := h₁
  rw [Rep] at r₁; subst r₁
  refine PyProof.Rows.callWith_builtin1 ?_ hs hplain
  exact h fr pos' g₁ s₁ _ E w₁ fun ds vs o g₂ s₂ w₂ l₂ r₂ h₂ => h₂ _ g₂ μ fr s₂ vs Q E w₂ r₂ fun d v g' s' w' l' r' p => kk d v o g' s' w' (l₁.trans (l₂.trans l')) r' p

theorem CallOk.len_list {ds : List D} {P : D → Prop} (hfit : ds.length ≤ sizeLine) (h : P (.int ds.length)) : CallOk x own (.builtin "len") [.list ds] P := fun L g μ fr s vs Q E w r kk => by
  obtain ⟨v, rfl, rr⟩ := r.one; clear r; have r := rr; clear rr
  obtain ⟨a, us, n, rfl, ha, r⟩ := r.listI
  rw [sizeLine_eq] at hfit
  have e : (us.toArray.size : Int) = ds.length := by simp [r.length]
  exact PyProof.Rows.len_list (w.isL ha).isList (by rw [e]; omega) (by rw [e]; exact kk _ _ g _ (w.toks _) (G.le.refl g) (Rep.int' _) h)
theorem CallOk.len_str {y : Str} {P : D → Prop} (hfit : y.length ≤ sizeLine) (h : P (.int y.length)) : CallOk x own (.builtin "len") [.str y] P := fun L g μ fr s vs Q E w r kk => by
  obtain ⟨v, rfl, rr⟩ := r.one; clear r; have r := rr; clear rr
  obtain ⟨t, rfl⟩ := r.strI
  rw [sizeLine_eq] at hfit
  exact PySem.P.len_str (by omega) (kk _ _ g _ (w.toks _) (G.le.refl g) (Rep.int' _) h)
theorem CallOk.abs {i : Int} {P : D → Prop} (h : P (.int (if i < 0 then -i else i))) : CallOk x own (.builtin "abs") [.int i] P := fun L g μ fr s vs Q E w r kk => by
  obtain ⟨v, rfl, rr⟩ := r.one; clear r; have r := rr; clear rr
  obtain ⟨t, rfl⟩ := r.intI
  exact call_abs_int fun u tk => kk _ _ g _ (w.toks _) (G.le.refl g) (Rep.int' _) h
theorem CallOk.ord {c : Nat} {P : D → Prop} (h : P (.int c)) : CallOk x own (.builtin "ord") [.str ⟨#[c]⟩] P := fun L g μ fr s vs Q E w r kk => by
  obtain ⟨v, rfl, rr⟩ := r.one; clear r; have r := rr; clear rr
  obtain ⟨t, rfl⟩ := r.strI
  exact PySem.P.ord_of_char (kk _ _ g _ (w.toks _) (G.le.refl g) (Rep.int' _) h)
theorem CallOk.chr {i : Int} {P : D → Prop} (h0 : 0 ≤ i) (h1 : i ≤ 1114111) (h : P (.str ⟨#[i.toNat]⟩)) : CallOk x own (.builtin "chr") [.int i] P := fun L g μ fr s vs Q E w r kk => by
  obtain ⟨v, rfl, rr⟩ := r.one; clear r; have r := rr; clear rr
  obtain ⟨t, rfl⟩ := r.intI
  exact PyProof.Rows.chr_of_range h0 h1 (kk _ _ g _ (w.toks _) (G.le.refl g) (Rep.str' _) h)

/-- an item by its place; a negative one counts from behind -/
def itemAt (ds : List D) (i : Int) : Option D := if 0 ≤ i then ds[i.toNat]? else none

theorem EV.index {value slice : Expr} {pos : Pos} {P : D → Own → Prop}
    (h : EV x env μ own value fun d₁ o₁ => EV x env μ o₁ slice fun d₂ o₂ => ∃ ds i d, (d₁ = .list ds ∨ d₁ = .tup ds) ∧ d₂ = .int i ∧ i < 2 ^ 62 ∧ itemAt ds i = some d ∧ P d o₂)
    (hs : ∀ o i, subscripted slice false o i = operate [o, i] (getItem o i) := by intro _ _; with_unfolding_all rfl) : EV x env μ own (.Subscript value slice pos) P := fun fr g s Q E w kk => by
  refine PyProof.Rows.Subscript_ (h fr g s _ E w fun d₁ v₁ o₁ g₁ s₁ w₁ l₁ r₁ h₁ => h₁ fr g₁ s₁ _ E w₁ fun d₂ v₂ o₂ g₂ s₂ w₂ l₂ r₂ h₂ => ?_)
  obtain ⟨ds, i, d, hd, rfl, hi, hit, hP⟩ := h₂
  obtain ⟨t, rfl⟩ := r₂.intI
  have r₁' := r₁.mono l₂
  unfold itemAt at hit
  split at hit
  case isFalse => cases hit
  case isTrue h0 =>
    rcases hd with rfl | rfl
    · obtain ⟨a, vs, n, rfl, ha, r⟩ := r₁'.listI
      obtain ⟨v, hv, rv⟩ := r.get hit
      have hL : s₂.heap.IsList a vs.toArray := (w₂.isL ha).isList
      have hx : vs.toArray[i.toNat]? = some v := by simpa using hv
      have hq := wpAny_getItem_list (prog := x.prog) (w := x.w) (A := x.A) (E := E) (t := t) (Q := Q) hL h0 (by omega) hx (kk d v o₂ g₂ s₂ w₂ (l₁.trans l₂) rv hP)
      exact tail_any hL.typeIs slot_list_getitem.lookup hq (hs _ _)
    · obtain ⟨a, vs, n, rfl, ha, r⟩ := r₁'.tupI
      obtain ⟨v, hv, rv⟩ := r.get hit
      have ht : IsTup s₂.heap a vs.toArray := ⟨_, w₂.ext.gh _ _ ha, rfl, _, rfl⟩
      have hlt : i.toNat < vs.length := (List.getElem?_eq_some_iff.mp hv).1
      have hx : vs.toArray[i.toNat]? = some v := by simpa using hv
      have hj : seqIndex? i vs.toArray.size = some i.toNat := seqIndex_of h0 (by rw [List.size_toArray]; omega)
      have hq := getItem_tuple (prog := x.prog) (w := x.w) (A := x.A) (E := E) (u := t) (Q := Q) ht (by omega) (by omega) hj hx (kk d v o₂ g₂ s₂ w₂ (l₁.trans l₂) rv hP)
      exact tail_any ht.typeIs slot_tuple_getitem.lookup hq (hs _ _)

/-- a part of a slice: none or a place from the front -/
inductive PartD : D → Option Nat → Prop
  | none : PartD .none .none
  | int (n : Nat) : PartD (.int n) (some n)

/-- an optional part -/
def PT (x : Cx) (env : Env) (μ : Mu) (own : Own) (e : Option Expr) (P : Option Nat → Own → Prop) : Prop :=
  ∀ (fr : Own) (g : G) (s : Shared) (Q : Value → Shared → Prop) (E : Value → Shared → Prop), W x env.locals g μ (own ++ fr) s →
    (∀ d v k own' g' s', W x env.locals g' μ (own' ++ fr) s' → G.le g g' → Rep g' d v → PartD d k → P k own' → Q v s') → wpAny (model x.prog x.w) x.A (evalPart e env) Q E s
theorem PT.zero {P : Option Nat → Own → Prop} (h : P .none own) : PT x env μ own .none P := fun fr g s Q E w kk => by
  rw [evalPart_none]; exact wpAny_pure (kk .none .none .none own g s w (G.le.refl g) Rep.none' .none h)
theorem PT.one {e : Expr} {P : Option Nat → Own → Prop} (h : EV x env μ own e fun d o => ∃ n : Nat, d = .int n ∧ P (some n) o) : PT x env μ own (some e) P := fun fr g s Q E w kk => by
  rw [evalPart_some]
  exact h fr g s Q E w fun d v o g' s' w' l' r' p => by
    obtain ⟨n, rfl, hp⟩ := p
    exact kk _ v (some n) o g' s' w' l' r' (.int n) hp

def partZ : Option Nat → Option Int
  | .none => .none
  | .some n => .some (n : Int)

def cut {α : Type} (l : List α) (lo hi : Option Nat) : List α := ((hi.elim l fun b => l.take b)).drop (lo.elim 0 id)

theorem PartD.isPart {g : G} {d : D} {k : Option Nat} {v : Value} (h : PartD d k) (r : Rep g d v) : IsPart v (partZ k) := by
  cases h with
  | none => obtain rfl := r.noneI; exact .none
  | int n => obtain ⟨t, rfl⟩ := r.intI; exact .int _ _

theorem slicePick_cut (vs : List Value) (lo hi : Option Nat) : slicePick vs.toArray (partZ lo) (partZ hi) none = (cut vs lo hi).toArray := by
  rw [slicePick_plain]
  congr 1
  cases lo with
  | none =>
    cases hi with
    | none => simp [cut, partZ]
    | some b =>
      simp only [cut, partZ, Option.elim, clipAt_nat, List.size_toArray, List.drop_zero, Nat.sub_zero]
      rw [List.take_eq_take_iff]; omega
  | some a =>
    cases hi with
    | none =>
      simp only [cut, partZ, Option.elim, clipAt_nat, List.size_toArray, id]
      rw [List.take_of_length_le (by simp)]
      rcases Nat.le_total a vs.length with h | h
      · rw [Nat.min_eq_left h]
      · rw [Nat.min_eq_right h, List.drop_of_length_le h, List.drop_of_length_le (Nat.le_refl _)]
    | some b =>
      simp only [cut, partZ, Option.elim, clipAt_nat, List.size_toArray, id]
      rw [List.drop_take]
      rcases Nat.le_total a vs.length with h | h
      · rw [Nat.min_eq_left h, List.take_eq_take_iff, List.length_drop]; omega
      · rw [Nat.min_eq_right h, List.drop_of_length_le h, List.drop_of_length_le (Nat.le_refl _)]; simp

theorem RepL.cut {g : G} {ds : List D} {vs : List Value} (h : RepL g ds vs) (lo hi : Option Nat) : RepL g (Fill66.cut ds lo hi) (Fill66.cut vs lo hi) := by
  unfold Fill66.cut
  cases hi with
  | none => exact h.drop _
  | some b => exact (h.take b).drop _

theorem EV.slice {value : Expr} {lower upper : Option Expr} {p pos : Pos} {P : D → Own → Prop}
    (h : EV x env μ own value fun d o₁ => ∃ ds, d = .list ds ∧ ds.length ≤ sizeLine ∧ PT x env μ o₁ lower fun lo o₂ => PT x env μ o₂ upper fun hi o₃ => P (.list (cut ds lo hi)) o₃) : EV x env μ own (.Subscript value (.Slice lower upper none p) pos) P := fun fr g s Q E w kk =>
  Subscript_ (h fr g s _ E w fun d v o₁ g₁ s₁ w₁ l₁ r₁ h₁ => by
    obtain ⟨ds, rfl, hsz, h₁⟩ := h₁
    obtain ⟨a, vs, n, rfl, ha, r⟩ := r₁.listI
    refine wpAny_Slice (h₁ fr g₁ s₁ _ E w₁ fun dl vl lo o₂ g₂ s₂ w₂ l₂ rl pl h₂ => h₂ fr g₂ s₂ _ E w₂ fun du vu hi o₃ g₃ s₃ w₃ l₃ ru pu h₃ => wpAny_pure ?_)
    have hl := ((w₃.isL (l₃ _ _ (l₂ _ _ ha))).isList).push { cls := .type "slice", data := .fields #[vl, vu, .none] }
    obtain ⟨g', w', l', r'⟩ := (w₃.push { cls := .type "slice", data := .fields #[vl, vu, .none] }).newList (((r.mono l₂).mono l₃).cut lo hi)
    refine tail_any hl.typeIs slot_list_getitem.lookup (wpAny_getItem_list_slice hl (Heap.IsSliceOf.new ..) (pl.isPart rl) (pu.isPart ru) .none (by simp) ?_ (by rw [List.size_toArray, r.length]; exact hsz)) rfl
    rw [slicePick_cut]
    exact kk _ _ o₃ g' _ w' (l₁.trans (l₂.trans (l₃.trans l'))) r' h₃)
end

end Fill66
end
noncomputable section
open PySem PySem.W PyProof.Rows
set_option maxRecDepth 100000
namespace Fill66

section
variable {x : Cx} {env : Env} {μ : Mu} {own : Own}

theorem EX.nil {P : FlowD → Mu → Own → Prop} (h : P .next μ own) : EX x env μ own [] P := fun fr g s Q E w kk =>
  wpAny_execs_nil (kk .next .next μ own g s w (G.le.refl g) rfl h)

/-- names are forgotten -/
def MuSub : Mu → Mu → Prop
  | [], _ => True
  | p :: r, μ => μ.get p.1 = some p.2 ∧ MuSub r μ
theorem MuSub.get : ∀ {μ' μ : Mu}, MuSub μ' μ → ∀ y d, μ'.get y = some d → μ.get y = some d
  | [], _, _, _, _, h => by simp [Mu.get] at h
  | (z, e) :: r, μ, hs, y, d, h => by
    unfold Mu.get at h
    rw [List.lookup_cons] at h
    cases hb : y == z with
    | true => rw [hb] at h; cases h; rw [eq_of_beq hb]; exact hs.1
    | false => rw [hb] at h; exact MuSub.get hs.2 y d h
theorem EX.sub {μ' : Mu} {st : List Stmt} {P : FlowD → Mu → Own → Prop} (hs : MuSub μ' μ) (h : EX x env μ' own st P) : EX x env μ own st P := fun fr g s Q E w kk =>
  h fr g s Q E (w.muSub hs.get) kk

def NextOr (x : Cx) (env : Env) (rest : List Stmt) (P : FlowD → Mu → Own → Prop) : FlowD → Mu → Own → Prop
  | .next, μ, o => EX x env μ o rest P
  | fd, μ, o => P fd μ o

theorem EX.cons {st : Stmt} {rest : List Stmt} {P : FlowD → Mu → Own → Prop} (h : EX1 x env μ own st (NextOr x env rest P)) : EX x env μ own (st :: rest) P := fun fr g s Q E w kk =>
  wpAny_execs_cons (h fr g s _ E w fun fd f μ' o g' s' w' l' r' p => by
    cases fd with
    | next =>
      obtain rfl : f = .next := r'
      exact p fr g' s' Q E w' fun fd f μ'' o' g'' s'' w'' l'' r'' p' => kk fd f μ'' o' g'' s'' w'' (l'.trans l'') r'' p'
    | brk => obtain rfl : f = .brk := r'; exact kk .brk .brk μ' o g' s' w' l' rfl p
    | cont => obtain rfl : f = .cont := r'; exact kk .cont .cont μ' o g' s' w' l' rfl p
    | ret d => obtain ⟨v, rfl, r'⟩ := r'; exact kk (.ret d) (.ret v) μ' o g' s' w' l' ⟨v, rfl, r'⟩ p)

/-- a name takes a value -/
theorem AS.name {nm : Str} {pos : Pos} {d : D} {P : Mu → Own → Prop} (h : P (μ.set nm d) own) (hk : env.scope.kind = .function := by rfl) (hl : env.kindOf nm = some .local := by rfl) : AS x env μ own (.Name nm pos) d P :=
  fun fr g s v Q E w r kk => by
    obtain ⟨m, hn, hm⟩ := w.ns
    refine wpAny_assign_Name (wpAny_storeName_local hl hn (fun h' hn' hs' => kk _ own g _ (w.store r hm hn' hs') (G.le.refl g) h) ?_)
    rw [hk]; rfl

theorem EX1.assign {nm : Str} {pos' pos : Pos} {value : Expr} {P : FlowD → Mu → Own → Prop} (h : EV x env μ own value fun d o => P .next (μ.set nm d) o)
    (hs : swapsWith value (some (.Name nm pos')) pos.line env = pure false := by rfl) (hk : env.scope.kind = .function := by rfl) (hl : env.kindOf nm = some .local := by rfl) : EX1 x env μ own (.Assign [.Name nm pos'] value pos) P :=
  fun fr g s Q E w kk => wpAny_Assign_Name (hs := hs) (h fr g s _ E w fun d v o g' s' w' l' r' p => by
    obtain ⟨m, hn, hm⟩ := w'.ns
    exact wpAny_storeName_local hl hn (fun h' hn' hs' => kk .next .next _ o g' _ (w'.store r' hm hn' hs') l' rfl p) (by rw [hk]; rfl))

theorem EX1.expr {e : Expr} {pos : Pos} {P : FlowD → Mu → Own → Prop} (h : EV x env μ own e fun d o => d = .none ∧ P .next μ o)
    (hi : interactive env = false := by rfl) (hs : swapsWith e none pos.line env = pure false := by rfl) : EX1 x env μ own (.Expr e pos) P :=
  fun fr g s Q E w kk => wpAny_Expr (hi := hi) (hs := hs) (h fr g s _ E w fun d v o g' s' w' l' r' p => by
    obtain ⟨rfl, p⟩ := p
    obtain rfl := r'.noneI
    exact kk .next .next μ o g' s' w' l' rfl p)

theorem EX1.if_ {test : Expr} {body orelse : List Stmt} {pos : Pos} {P : FlowD → Mu → Own → Prop} (h : TS x env μ own test fun b o => (b = true → EX x env μ o body P) ∧ (b = false → EX x env μ o orelse P)) : EX1 x env μ own (.If test body orelse pos) P :=
  fun fr g s Q E w kk => wpAny_If (h fr g s _ E w fun b o g' s' w' l' p => by
    cases b with
    | true => exact p.1 rfl fr g' s' Q E w' fun fd f μ'' o' g'' s'' w'' l'' r'' p' => kk fd f μ'' o' g'' s'' w'' (l'.trans l'') r'' p'
    | false => exact p.2 rfl fr g' s' Q E w' fun fd f μ'' o' g'' s'' w'' l'' r'' p' => kk fd f μ'' o' g'' s'' w'' (l'.trans l'') r'' p')

theorem EX1.ret {e : Expr} {pos : Pos} {P : FlowD → Mu → Own → Prop} (h : EV x env μ own e fun d o => P (.ret d) μ o) : EX1 x env μ own (.Return (some e) pos) P :=
  fun fr g s Q E w kk => wpAny_Return_some (h fr g s _ E w fun d v o g' s' w' l' r' p => kk (.ret d) (.ret v) μ o g' s' w' l' ⟨v, rfl, r'⟩ p)

def MuFr (a : Addr) (c : D) : Mu → Mu → Prop
  | [], _ => True
  | p :: r, μ => (μ.get p.1 = some p.2 ∨ (μ.get p.1 = some (.mut a) ∧ p.2 = c)) ∧ MuFr a c r μ
theorem MuFr.get {a : Addr} {c : D} : ∀ {μ' μ : Mu}, MuFr a c μ' μ → ∀ y d, μ'.get y = some d → μ.get y = some d ∨ (μ.get y = some (.mut a) ∧ d = c)
  | [], _, _, _, _, h => by simp [Mu.get] at h
  | (z, e) :: r, μ, hs, y, d, h => by
    unfold Mu.get at h
    rw [List.lookup_cons] at h
    cases hb : y == z with
    | true => rw [hb] at h; cases h; rw [eq_of_beq hb]; exact hs.1
    | false => rw [hb] at h; exact MuFr.get hs.2 y d h

/-- an own list is frozen, a name of it too -/
theorem EX.freeze {a : Addr} {ds : List D} {μ' : Mu} {own' : Own} {st : List Stmt} {P : FlowD → Mu → Own → Prop} (hp : own.Perm ((a, .lst ds) :: own')) (hne : x.lent ≠ some a)
    (hμ : MuFr a (.list ds) μ' μ) (h : EX x env μ' own' st P) : EX x env μ own st P := fun fr g s Q E w kk => by
  obtain ⟨g', w', l', r'⟩ := (w.ownPerm (own' := (a, .lst ds) :: (own' ++ fr)) ((hp.append_right fr).symm)).freeze hne
  have hns : ∃ m, s.heap.Ns env.locals m ∧ ∀ y d, μ'.get y = some d → ∃ v, m y = some v ∧ Rep g' d v := by
    obtain ⟨m, h1, h2⟩ := w'.ns
    refine ⟨m, h1, fun y d e => ?_⟩
    rcases hμ.get y d e with e1 | ⟨e1, rfl⟩
    · exact h2 y d e1
    · obtain ⟨v, hv, rv⟩ := h2 y _ e1
      obtain rfl := rv.mutI
      exact ⟨_, hv, r'⟩
  have w'' : W x env.locals g' μ' (own' ++ fr) s := { w' with ns := hns }
  exact h fr g' s Q E w'' fun fd f μ'' o' g'' s'' w3 l3 r3 p => kk fd f μ'' o' g'' s'' w3 (l'.trans l3) r3 p

theorem EX.ownPerm {own' : Own} {st : List Stmt} {P : FlowD → Mu → Own → Prop} (hp : own.Perm own') (h : EX x env μ own' st P) : EX x env μ own st P := fun fr g s Q E w kk =>
  h fr g s Q E (w.ownPerm (hp.symm.append_right fr)) kk

/-- while -/
theorem EX1.while_ {test : Expr} {body : List Stmt} {pos : Pos} {P : FlowD → Mu → Own → Prop} (I : Nat → Mu → Own → Prop) (n : Nat) (h0 : I n μ own)
    (turn : ∀ n μ own, I n μ own → TS x env μ own test fun b o => (b = true → EX x env μ o body fun fd μ' o' => match fd with
        | .next | .cont => ∃ m, m < n ∧ I m μ' o'
        | .brk => P .next μ' o'
        | .ret d => P (.ret d) μ' o') ∧ (b = false → P .next μ o)) : EX1 x env μ own (.While test body [] pos) P := fun fr g s Q E w kk => by
  refine wpAny_While ?_
  refine codeAny_whileLoop (fun n s' => ∃ μ' o' g', W x env.locals g' μ' (o' ++ fr) s' ∧ G.le g g' ∧ I n μ' o') (fun n s₁ hI => ?_) n ⟨μ, own, g, w, G.le.refl g, h0⟩
  obtain ⟨μ₁, o₁, g₁, w₁, l₁, hI⟩ := hI
  refine turn n μ₁ o₁ hI fr g₁ s₁ _ _ w₁ fun b o₂ g₂ s₂ w₂ l₂ p => ?_
  cases b with
  | true =>
    refine p.1 rfl fr g₂ s₂ _ _ w₂ fun fd f μ₃ o₃ g₃ s₃ w₃ l₃ r₃ p₃ => ?_
    cases fd with
    | next => obtain rfl : f = .next := r₃; obtain ⟨m, hm, hi⟩ := p₃; exact ⟨m, hm, μ₃, o₃, g₃, w₃, l₁.trans (l₂.trans l₃), hi⟩
    | cont => obtain rfl : f = .cont := r₃; obtain ⟨m, hm, hi⟩ := p₃; exact ⟨m, hm, μ₃, o₃, g₃, w₃, l₁.trans (l₂.trans l₃), hi⟩
    | brk => obtain rfl : f = .brk := r₃; exact kk .next .next μ₃ o₃ g₃ s₃ w₃ (l₁.trans (l₂.trans l₃)) rfl p₃
    | ret d => obtain ⟨v, rfl, r₃⟩ := r₃; exact kk (.ret d) (.ret v) μ₃ o₃ g₃ s₃ w₃ (l₁.trans (l₂.trans l₃)) ⟨v, rfl, r₃⟩ p₃
  | false => exact wpAny_execs_nil (kk .next .next μ₁ o₂ g₂ s₂ w₂ (l₁.trans l₂) rfl (p.2 rfl))

theorem EX1.whileP {test : Expr} {body : List Stmt} {pos : Pos} {P : FlowD → Mu → Own → Prop} (I : Nat → Mu → Own → Prop) (Post : Mu → Own → Prop) (n : Nat) (h0 : I n μ own)
    (turn : ∀ n μ own, I n μ own → TS x env μ own test fun b o => (b = true → EX x env μ o body fun fd μ' o' => match fd with
        | .next | .cont => ∃ m, m < n ∧ I m μ' o'
        | .brk => Post μ' o'
        | .ret d => P (.ret d) μ' o') ∧ (b = false → Post μ o)) (fin : ∀ μ o, Post μ o → P .next μ o) : EX1 x env μ own (.While test body [] pos) P :=
  EX1.while_ I n h0 fun n μ own hI fr g s Q E w kk => turn n μ own hI fr g s Q E w fun b o g' s' w' l' p => kk b o g' s' w' l' ⟨fun hb => (p.1 hb).mono fun fd μ' o' q => match fd, q with
    | .next, q => q
    | .cont, q => q
    | .brk, q => fin _ _ q
    | .ret _, q => q, fun hb => fin _ _ (p.2 hb)⟩

/-- an iterator: what its n turns hand out -/
structure It (x : Cx) (gi : G) (target : Expr) (it : Value) (n : Nat) (item : Nat → D) (cells : Nat → Own) : Prop where
  next : ∀ k, k < n → ∀ (L : Addr) (g : G) (μ : Mu) (own : Own) (s : Shared) (Q : Option Value → Shared → Prop) (E : Value → Shared → Prop), W x L g μ (cells k ++ own) s → G.le gi g →
    (∀ v s', (∀ (Q' : Unit → Shared → Prop) (E' : Value → Shared → Prop), (∀ g' s'', W x L g' μ (cells (k + 1) ++ own) s'' → G.le g g' → Rep g' (item k) v → Q' () s'') → wpAny (model x.prog x.w) x.A (letOwnedTupleGo target it v) Q' E' s') → Q (some v) s') →
    wpAny (model x.prog x.w) x.A (pyNext it) Q E s
  stop : ∀ (L : Addr) (g : G) (μ : Mu) (own : Own) (s : Shared) (Q : Option Value → Shared → Prop) (E : Value → Shared → Prop), W x L g μ (cells n ++ own) s → G.le gi g →
    (∀ s', W x L g μ own s' → Q none s') → wpAny (model x.prog x.w) x.A (pyNext it) Q E s

/-- what a for or a comprehension goes over -/
def IT (x : Cx) (env : Env) (μ : Mu) (own : Own) (target iter : Expr) (P : Nat → (Nat → D) → Own → Prop) : Prop :=
  ∀ (fr : Own) (g : G) (s : Shared) (Q : Value → Shared → Prop) (E : Value → Shared → Prop), W x env.locals g μ (own ++ fr) s →
    (∀ it n item cells own' g' s', W x env.locals g' μ (cells 0 ++ (own' ++ fr)) s' → G.le g g' → It x g' target it n item cells → P n item own' → Q it s') →
    wpAny (model x.prog x.w) x.A (eval iter env) (fun xv s₁ => wpAny (model x.prog x.w) x.A (pyIter xv) Q E s₁) E s

theorem EX1.for_ {target iter : Expr} {body : List Stmt} {pos : Pos} {P : FlowD → Mu → Own → Prop}
    (h : IT x env μ own target iter fun n item o => ∃ I : Nat → Mu → Own → Prop, I 0 μ o ∧
      (∀ k μ o, k < n → I k μ o → AS x env μ o target (item k) fun μ₁ o₁ => EX x env μ₁ o₁ body fun fd μ₂ o₂ => match fd with
        | .next | .cont => I (k + 1) μ₂ o₂
        | .brk => P .next μ₂ o₂
        | .ret d => P (.ret d) μ₂ o₂) ∧
      ∀ μ o, I n μ o → P .next μ o)
    (hs : ∀ v, foldedSetIterable iter env v = pure v := by intro _; rfl) : EX1 x env μ own (.For target iter body [] pos) P := fun fr g s Q E w kk => by
  refine wpAny_For (hs := hs) (h fr g s _ E w fun it n item cells o g₁ s₁ w₁ l₁ It h₁ => ?_)
  obtain ⟨I, h0, step, fin⟩ := h₁
  refine codeAny_forLoop_any (fun j s' => ∃ k μ' o' g', j = n - k ∧ k ≤ n ∧ W x env.locals g' μ' (cells k ++ (o' ++ fr)) s' ∧ G.le g₁ g' ∧ I k μ' o') (fun j s₂ hI => ?_) n ⟨0, μ, o, g₁, rfl, Nat.zero_le _, w₁, G.le.refl _, h0⟩
  obtain ⟨k, μ₂, o₂, g₂, rfl, hk, w₂, l₂, hI⟩ := hI
  rcases Nat.lt_or_eq_of_le hk with hlt | rfl
  · refine It.next k hlt _ g₂ μ₂ _ s₂ _ _ w₂ l₂ fun v s₃ hlet => ?_
    show wpAny _ _ _ _ _ _
    refine hlet _ _ fun g₄ s₄ w₄ l₄ r₄ => ?_
    refine step k μ₂ o₂ hlt hI (cells (k + 1) ++ fr) g₄ s₄ v _ _ (w₄.ownPerm ?_) r₄ fun μ₅ o₅ g₅ s₅ w₅ l₅ p₅ => ?_
    · rw [← List.append_assoc, ← List.append_assoc]
      exact (List.perm_append_comm).append_right fr
    refine p₅ (cells (k + 1) ++ fr) g₅ s₅ _ _ w₅ fun fd f μ₆ o₆ g₆ s₆ w₆ l₆ r₆ p₆ => ?_
    have w₇ : W x env.locals g₆ μ₆ (cells (k + 1) ++ (o₆ ++ fr)) s₆ := w₆.ownPerm (by
      rw [← List.append_assoc, ← List.append_assoc]
      exact (List.perm_append_comm).append_right fr)
    have w₈ : W x env.locals g₆ μ₆ (o₆ ++ fr) s₆ := w₇.ownSub (fun p hp => List.mem_append_right _ hp) (by
      have := w₇.nodup
      rw [List.map_append, List.nodup_append] at this
      exact this.2.1)
    have l₈ := l₂.trans (l₄.trans (l₅.trans l₆))
    cases fd with
    | next => obtain rfl : f = .next := r₆; exact ⟨n - (k + 1), by omega, k + 1, μ₆, o₆, g₆, rfl, hlt, w₇, l₈, p₆⟩
    | cont => obtain rfl : f = .cont := r₆; exact ⟨n - (k + 1), by omega, k + 1, μ₆, o₆, g₆, rfl, hlt, w₇, l₈, p₆⟩
    | brk => obtain rfl : f = .brk := r₆; exact kk .next .next μ₆ o₆ g₆ s₆ w₈ (l₁.trans l₈) rfl p₆
    | ret d => obtain ⟨v, rfl, r₆⟩ := r₆; exact kk (.ret d) (.ret v) μ₆ o₆ g₆ s₆ w₈ (l₁.trans l₈) ⟨v, rfl, r₆⟩ p₆
  · exact It.stop _ g₂ μ₂ _ s₂ _ _ w₂ l₂ fun s₃ w₃ => wpAny_execs_nil (kk .next .next μ₂ o₂ g₂ s₃ w₃ (l₁.trans l₂) rfl (fin μ₂ o₂ hI))
end

end Fill66
end
noncomputable section
open PySem PySem.W PyProof.Rows
set_option maxRecDepth 100000
namespace Fill66

theorem lookup_of_mem {α β : Type} [BEq α] [LawfulBEq α] {y : α} {v : β} : ∀ {l : List (α × β)}, (l.map (·.1)).Nodup → (y, v) ∈ l → l.lookup y = some v
  | (z, u) :: l, hn, hm => by
    rw [List.map_cons, List.nodup_cons] at hn
    rw [List.lookup_cons]
    rcases List.mem_cons.mp hm with h | h
    · cases h; simp
    · have : (y == z) = false := by
        rw [beq_eq_false_iff_ne]
        rintro rfl
        exact hn.1 (List.mem_map.mpr ⟨_, h, rfl⟩)
      rw [this]; exact lookup_of_mem hn.2 h
theorem mem_of_look {α β : Type} [BEq α] [LawfulBEq α] {y : α} {v : β} : ∀ {l : List (α × β)}, l.lookup y = some v → (y, v) ∈ l
  | (z, u) :: l, h => by
    rw [List.lookup_cons] at h
    cases hb : y == z with
    | true => rw [hb] at h; cases h; rw [eq_of_beq hb]; exact List.mem_cons_self
    | false => rw [hb] at h; exact List.mem_cons_of_mem _ (mem_of_look h)

theorem RepL.zip {g : G} {y : Str} {d : D} : ∀ {names : List Str} {ds : List D} {vs : List Value}, RepL g ds vs → (y, d) ∈ names.zip ds → ∃ v, (y, v) ∈ names.zip vs ∧ Rep g d v
  | [], _, _, _, h => by simp at h
  | _ :: _, [], _, _, h => by simp at h
  | n :: names, e :: ds, vs, r, h => by
    rw [RepL] at r
    obtain ⟨v, us, rfl, h1, h2⟩ := r
    rw [List.zip_cons_cons] at h
    rcases List.mem_cons.mp h with h | h
    · cases h; exact ⟨v, List.mem_cons_self, h1⟩
    · obtain ⟨u, h3, h4⟩ := RepL.zip h2 h
      exact ⟨u, List.mem_cons_of_mem _ h3, h4⟩

theorem zip_ns {g : G} {names : List Str} {ds : List D} {vs : List Value} (hn : names.Nodup) (r : RepL g ds vs) (y : Str) (d : D) (h : Mu.get (names.zip ds) y = some d) :
    ∃ v, (names.zip vs).reverse.lookup y = some v ∧ Rep g d v := by
  obtain ⟨v, hm, hr⟩ := r.zip (mem_of_look h)
  refine ⟨v, lookup_of_mem ?_ (List.mem_reverse.mpr hm), hr⟩
  rw [List.map_reverse, List.Nodup, List.pairwise_reverse]
  have : ∀ (names : List Str) (vs : List Value), (List.map (fun x : Str × Value => x.1) (names.zip vs)).Sublist names := by
    intro names
    induction names with
    | nil => intro vs; simp
    | cons a t ih =>
      intro vs
      cases vs with
      | nil => simp
      | cons b u => simpa using ih u
  exact (hn.sublist (this names vs)).imp fun h e => h e.symm

/-- how the def takes its arguments -/
def Binds (i : Nat) (names : List Str) : Prop :=
  names.Nodup ∧ (∀ (vs : List Value) (pm code doc : Value), vs.length = names.length → bindArgs (Calls.docDef (dr i).name (dr i).params (dr i).body (dr i).scope pm code doc) ⟨vs, []⟩ = pure (names.zip vs)) ∧
  (∀ n ∈ names, (dr i).scope.names.lookup n = some .local) ∧ (dr i).scope.isCoroutine = false ∧ (dr i).scope.isGenerator = false ∧ (dr i).scope.kind = .function ∧ ∀ x ∈ (dr i).scope.names, x.2 ≠ .cell

/-- what a def does: its body, from its arguments -/
structure FN {α : Type} (i : Nat) (k : Nat) (names : List Str) (enc : α → List D) (pre : α → Prop) (res : α → D) : Prop where
  binds : Binds i names
  isDef : isDef i = true
  len : ∀ p, (enc p).length = names.length
  walk : ∀ (x : Cx) (L a : Addr) (cd : Value) (p : α), k ≤ x.k → x.lent = none → pre p →
    EX x (envOf (dr i).name (dr i).scope L a cd) (names.zip (enc p)) [] (dr i).body fun fd _ _ => fd = .ret (res p)

section
variable {x : Cx} {env : Env} {μ : Mu} {own : Own}

theorem CallOk.fn {α : Type} {i k : Nat} {names : List Str} {enc : α → List D} {pre : α → Prop} {res : α → D} {f : Addr} {p : α} {P : D → Prop} (F : FN i k names enc pre res) (hf : x.mg (dr i).name = some (.ref f)) (hk : k + 1 ≤ x.k)
    (hp : pre p) (h : P (res p)) : CallOk x own (.ref f) (enc p) P := fun L g μ fr s vs Q E w r kk => by
  obtain ⟨a, o, pm, code, doc, h1, h2, h3, h4⟩ := w.tf.fn i F.isDef
  rw [hf] at h1
  obtain rfl : f = a := by injection h1 with h1; injection h1
  obtain ⟨b1, b2, b3, b4, b5, b6, b7⟩ := F.binds
  have hR := w.room
  refine wpAny_call (call_plain_ret (by have := hR.depth; omega) (w.top _ _ h2) h3 (w.tf.nolimit.keeps w.top) (h4.keeps w.top) (b2 vs pm code doc (by rw [r.length, F.len])) (fun y hy => b3 _ (List.of_mem_zip hy).1) (fun h₁ F₁ => ?_) b4 b5 b6 b7)
  let env' : Env := envOf (dr i).name (dr i).scope s.heap.objs.size f code
  let x' : Cx := { x with A := x.A.deeper env', k := x.k - 1, s₀ := s, g₀ := g, lent := none }
  have w₁ : W x' s.heap.objs.size g (names.zip (enc p)) [] { s with heap := h₁, toks := s.toks + (names.zip vs).length } := {
    tf := w.tf
    room := ⟨hR.handled, by show x.A.depth + 1 + (x.k - 1) < _; have := hR.depth; omega, by show x.A.units + 3 + 20 * (x.k - 1) + 100 < _; have := hR.units; omega⟩
    ext := ⟨fun b o e _ => F₁.keep b o e, Nat.le_of_lt F₁.ns.lt, rfl, rfl, G.le.refl g, fun b o e => F₁.keep _ _ (w.ext.gh b o e), fun b hb => .inl hb⟩
    tb := Nat.le_trans w.tb w.ext.size
    top := fun b o e => F₁.keep _ _ (w.top b o e)
    ns := ⟨_, F₁.ns, fun y d e => zip_ns b1 r y d e⟩
    Lb := Nat.le_refl _
    gL := w.gsize (Nat.le_refl _)
    own := nofun
    nodup := .nil
    lentT := nofun }
  refine F.walk x' s.heap.objs.size f code p (by show k ≤ x.k - 1; omega) rfl hp [] g _ _ _ w₁ fun fd fl μ' own' g' s' w' l' r' p => ?_
  subst p
  obtain ⟨v, rfl, rv⟩ := r'
  exact kk _ v g' s' (w.call w'.ext) l' rv h

theorem EV.callF {α : Type} {i k : Nat} {names : List Str} {enc : α → List D} {pre : α → Prop} {res : α → D} {nm : Str} {pos pos' : Pos} {e : Expr} {es : List Expr} {P : D → Own → Prop} (F : FN i k names enc pre res) (hk : k + 1 ≤ x.k)
    (h : AR x env μ own (e :: es) fun ds o => ∃ p, ds = enc p ∧ pre p ∧ P (res p) o) (hn : (dr i).name = nm := by rfl)
    (hg : env.globals = mainGlobals := by rfl) (hk' : env.scope.kind = .function := by rfl) (hl : env.kindOf nm = some .globalImplicit := by rfl) (hd : (nm == ("__debug__" : Str)) = false := by decide)
    (he : eval (.Call (.Name nm pos) (e :: es) [] pos') env = (do callWith pos' (← eval (.Name nm pos) env) [] (backTo pos' (starEach (e :: es) env)) (backToKw pos' (keywordEach [] env))) := by rfl)
    (hs : starEach (e :: es) env = (false, eval e env) :: starEach es env := by rfl) :
    EV x env μ own (.Call (.Name nm pos) (e :: es) [] pos') P := fun fr g s Q E w kk => by
  subst hn
  obtain ⟨f, o, pm, code, doc, h1, h2, h3, h4⟩ := w.tf.fn i F.isDef
  refine PyProof.Rows.Call_ ?_ he
  refine Calls.Name_function_global hk' hl (Calls.loadGlobal_global (by rw [hg]; exact w.tf.g.keeps w.top) h1 ?_) hd
  refine PyProof.Rows.callWith_def h3 ?_ hs
  refine h fr pos' g s _ E w fun ds vs o' g₂ s₂ w₂ l₂ r₂ p => ⟨w₂.top _ _ h2, ?_⟩
  obtain ⟨p, rfl, hp, hP⟩ := p
  exact CallOk.fn F h1 hk hp hP _ g₂ μ fr s₂ vs Q E w₂ r₂ fun d v g' s' w' l' r' p' => kk d v o' g' s' w' (l₂.trans l') r' p'

/-- what an iterator over a list holds -/
def LIter (l : Addr) (k : Nat) : Cell := .obj fun o => o.cls = .type "list_iterator" ∧ o.data = .fields #[.ref l, .int k 0]

/-- the target lets nothing of a list's iterator go -/
theorem letGo_other {M : Model} {A : Around} {s : Shared} {target : Expr} {it : Addr} {v : Value} {o : Obj} {Q : Unit → Shared → Prop} {E : Value → Shared → Prop} (ho : s.heap.get? it = some o)
    (hc : o.cls = .type "list_iterator" ∨ o.cls = .type "range_iterator" ∨ o.cls = .type "str_ascii_iterator" ∨ o.cls = .type "str_iterator") (hq : Q () s) : wpAny M A (letOwnedTupleGo target (.ref it) v) Q E s := by
  unfold letOwnedTupleGo
  split
  · split
    · rename_i r a heq
      cases heq
      refine wpAny_bind (wpAny_load ho ?_)
      obtain ⟨cls, dd, data, sl⟩ := o
      rcases hc with hc | hc | hc | hc <;> (simp only at hc; subst hc; cases data <;> exact wpAny_pure hq)
    · exact wpAny_pure hq
  · split
    · rename_i r a heq
      cases heq
      refine wpAny_bind (wpAny_load ho ?_)
      obtain ⟨cls, dd, data, sl⟩ := o
      rcases hc with hc | hc | hc | hc <;> (simp only at hc; subst hc; cases data <;> exact wpAny_pure hq)
    · exact wpAny_pure hq
  · exact wpAny_pure hq

theorem It.list {target : Expr} {it l : Addr} {gi : G} {ds : List D} {vs : List Value} {n : Nat} {d₀ : D} (hl : gi l = some (LObj vs n)) (r : RepL gi ds vs) : It x gi target (.ref it) ds.length (fun k => ds.getD k d₀) (fun k => [(it, LIter l k)]) where
  next := fun k hk L g μ own s Q E w le kk => by
    obtain ⟨⟨o, ho, hc, hd⟩, _⟩ := w.own _ List.mem_cons_self
    have hd' : ds[k]? = some (ds.getD k d₀) := by rw [List.getD_eq_getElem?_getD, List.getElem?_eq_getElem hk]; rfl
    obtain ⟨v, hv, rv⟩ := r.get hd'
    refine wpAny_pyNext_list_item (l := l) (i := k) (x := v) ⟨o, ho, hc, hd⟩ (w.isL (le _ _ hl)).isList (by simpa using hv) fun h' hi hs => kk v _ fun Q' E' kk' => ?_
    have hi' := hi
    obtain ⟨o', h1, h2, h3⟩ := hi
    refine letGo_other h1 (.inl h2) (kk' g _ (W.step (cs := [(it, LIter l k)]) (cs' := [(it, LIter l (k + 1))]) w (List.Sublist.refl _) (fun a o ha e => (hs.2 a (ha _ List.mem_cons_self)).trans e) rfl rfl (fun p hp => ?_)) (G.le.refl g) (rv.mono le))
    obtain rfl : p = (it, LIter l (k + 1)) := by simpa using hp
    exact ⟨o', h1, h2, h3⟩
  stop := fun L g μ own s Q E w le kk => by
    obtain ⟨⟨o, ho, hc, hd⟩, _⟩ := w.own _ List.mem_cons_self
    refine wpAny_pyNext_list_end (l := l) (i := ds.length) w.room.handled ⟨o, ho, hc, hd⟩ (w.isL (le _ _ hl)).isList (by simp [r.length]) fun h' hs => kk _ (W.step (cs := [(it, LIter l ds.length)]) (cs' := []) w (List.nil_sublist _) (fun a o ha e => hs a o (ha _ List.mem_cons_self) e) rfl rfl nofun)

theorem IT.list {target iter : Expr} {P : Nat → (Nat → D) → Own → Prop} (d₀ : D) (h : EV x env μ own iter fun d o => ∃ ds, d = .list ds ∧ P ds.length (fun k => ds.getD k d₀) o) : IT x env μ own target iter P := fun fr g s Q E w kk =>
  h fr g s _ E w fun d v o g₁ s₁ w₁ l₁ r₁ p => by
    obtain ⟨ds, rfl, hP⟩ := p
    obtain ⟨l, vs, n, rfl, hl, r⟩ := r₁.listI
    refine wpAny_pyIter_list (w₁.isL hl).isList ?_
    refine kk _ ds.length (fun k => ds.getD k d₀) (fun k => [(s₁.heap.objs.size, LIter l k)]) o g₁ _ ?_ l₁ (It.list hl r) hP
    exact w₁.pushOwn ⟨_, Heap.get?_push_size _ rfl, rfl, rfl⟩

theorem EX1.forL {target iter : Expr} {body : List Stmt} {pos : Pos} {P : FlowD → Mu → Own → Prop}
    (h : EV x env μ own iter fun d o => ∃ ds, d = .list ds ∧ ∃ I : Nat → Mu → Own → Prop, I 0 μ o ∧
      (∀ k e μ o, ds[k]? = some e → I k μ o → AS x env μ o target e fun μ₁ o₁ => EX x env μ₁ o₁ body fun fd μ₂ o₂ => match fd with
        | .next | .cont => I (k + 1) μ₂ o₂
        | .brk => P .next μ₂ o₂
        | .ret d => P (.ret d) μ₂ o₂) ∧
      ∀ μ o, I ds.length μ o → P .next μ o)
    (hs : ∀ v, foldedSetIterable iter env v = pure v := by intro _; rfl) : EX1 x env μ own (.For target iter body [] pos) P :=
  EX1.for_ (hs := hs) (IT.list .none (h.mono fun d o p => by
    obtain ⟨ds, rfl, I, h0, step, fin⟩ := p
    exact ⟨ds, rfl, I, h0, fun k μ o hk hI => step k _ μ o (by show ds[k]? = some (ds.getD k .none); rw [List.getD_eq_getElem?_getD, List.getElem?_eq_getElem hk]; rfl) hI, fin⟩))

def RIter (k n : Nat) : Cell := .obj fun o => o = { cls := .type "range_iterator", dict := none, data := .fields #[rawInt k, rawInt ((n : Int) - k), rawInt 1], slots := #[] }

theorem It.range {target : Expr} {it : Addr} {gi : G} {n : Nat} : It x gi target (.ref it) n (fun k => .int k) (fun k => [(it, RIter k n)]) where
  next := fun k hk L g μ own s Q E w le kk => by
    obtain ⟨⟨o, ho, hc⟩, _⟩ := w.own _ List.mem_cons_self
    subst hc
    refine wpAny_pyNext_range_item (x := k) (left := (n : Int) - k) (step := 1) ho (by omega) fun h' hi hs => kk _ _ fun Q' E' kk' => ?_
    refine letGo_other hi (.inr (.inl rfl)) (kk' g _ (W.step (cs := [(it, RIter k n)]) (cs' := [(it, RIter (k + 1) n)]) w (List.Sublist.refl _) (fun a o ha e => (hs.2 a (ha _ List.mem_cons_self)).trans e) rfl rfl (fun p hp => ?_)) (G.le.refl g) (Rep.int' _))
    obtain rfl : p = (it, RIter (k + 1) n) := by simpa using hp
    refine ⟨_, hi, ?_⟩
    have e1 : (k : Int) + 1 = ((k + 1 : Nat) : Int) := by omega
    have e2 : (n : Int) - k - 1 = (n : Int) - ((k + 1 : Nat) : Int) := by omega
    rw [e1, e2]
  stop := fun L g μ own s Q E w le kk => by
    obtain ⟨⟨o, ho, hc⟩, _⟩ := w.own _ List.mem_cons_self
    subst hc
    exact wpAny_pyNext_range_end (x := n) (left := (n : Int) - n) (step := 1) w.room.handled ho (by omega) fun h' hs => kk _ (W.step (cs := [(it, RIter n n)]) (cs' := []) w (List.nil_sublist _) (fun a o ha e => hs a o (ha _ List.mem_cons_self) e) rfl rfl nofun)

/-- range(e), e from 0 on -/
theorem IT.range {target e : Expr} {pos pos' : Pos} {P : Nat → (Nat → D) → Own → Prop}  (h : EV x env μ own e fun d o => ∃ n : Nat, d = .int n ∧ n < 2 ^ 62 ∧ P n (fun k => .int k) o)
    (hg : env.globals = mainGlobals := by rfl) (hb : env.builtins = builtinsNs := by rfl) (hk : env.scope.kind = .function := by rfl) (hl : env.kindOf "range" = some .globalImplicit := by rfl)
    (he : eval (.Call (.Name "range" pos) [e] [] pos') env = (do callWith pos' (← eval (.Name "range" pos) env) [] (backTo pos' (starEach [e] env)) (backToKw pos' (keywordEach [] env))) := by rfl)
    (hs : starEach [e] env = (false, eval e env) :: starEach [] env := by rfl) : IT x env μ own target (.Call (.Name "range" pos) [e] [] pos') P := fun fr g s Q E w kk => by
  refine PyProof.Rows.Call_ ?_ he
  refine (EV.builtin (P := fun d o => d = .raw (.type "range") ∧ o = own) (by decide) (by decide) ⟨rfl, rfl⟩ hg hb hk hl (by decide) (by decide)) fr g s _ E w fun d v o g₁ s₁ w₁ l₁ r₁ h₁ => ?_
  obtain ⟨rfl, rfl⟩ := h₁
  obtain rfl := r₁.rawI
  refine PyProof.Rows.callWith_type1 ?_ hs rfl
  refine AR.cons (P := fun ds o' => ∃ n : Nat, ds = [.int n] ∧ n < 2 ^ 62 ∧ P n (fun k => .int k) o') (h.mono fun d o' p => ?_) hs fr pos' g₁ s₁ _ E w₁ fun ds vs o' g₂ s₂ w₂ l₂ r₂ p => ?_
  · obtain ⟨n, rfl, hn, hp⟩ := p
    exact AR.nil ⟨n, rfl, hn, hp⟩
  obtain ⟨n, rfl, hn, hp⟩ := p
  obtain ⟨v, rfl, rv⟩ := r₂.one
  obtain ⟨t, rfl⟩ := rv.intI
  refine call_range_1 ?_
  refine wpAny_pyIter_range (a := 0) (b := n) (c := 1) (Heap.get?_push_size _ rfl) (small_one (by omega) (by omega) (by omega) (by omega)) ?_
  have w₃ := (w₂.push { cls := .type "range", data := .fields #[.int 0 s₂.toks, .int n t, .int 1 (s₂.toks + 1)] }).toks (s₂.toks + 1 + 1)
  have hz : Builtin.Range.rangeSize 0 (n : Int) 1 = n := by rw [rangeSize_one]; split <;> omega
  rw [hz]
  refine kk _ n (fun k => .int k) (fun k => [(_, RIter k n)]) o' g₂ _ (w₃.pushOwn (c := RIter 0 n) ⟨_, Heap.get?_push_size _ rfl, ?_⟩) (l₁.trans l₂) It.range hp
  simp
end

end Fill66
end
noncomputable section
open PySem PySem.W PyProof.Rows
set_option maxRecDepth 100000
namespace Fill66

section
variable {x : Cx} {env : Env} {μ : Mu} {own : Own}

/-- an own list is changed as a whole -/
theorem W.setList {L : Addr} {g : G} {s : Shared} {a : Addr} {ds es : List D} {vs us : List Value} {n : Nat} {f : Obj → Obj} {k : Nat} (w : W x L g μ ((a, .lst ds) :: own) s) (ha : s.heap.get? a = some (LObj vs n)) (r : RepL g es us) (hf : ∃ n', f (LObj vs n) = LObj us n') :
    W x L g μ ((a, .lst es) :: own) { s with heap := s.heap.update a f, toks := k } := by
  obtain ⟨n', e⟩ := hf
  exact w.updOwn (Heap.SameBut.update ..) ⟨us, n', by rw [Heap.get?_update_self _ ha (by rw [e]; rfl), e], r⟩

theorem W.ownList {L : Addr} {g : G} {s : Shared} {a : Addr} {ds : List D} (w : W x L g μ own s) (h : (a, .lst ds) ∈ own) : ∃ vs n, s.heap.get? a = some (LObj vs n) ∧ RepL g ds vs := (w.own _ h).1

theorem mapSeq_any {us ws : List Value} {k : Nat} {f : Array Value → Array Value} (h : f us.toArray = ws.toArray) : ∃ n', Obj.mapSeq f (LObj us k) = LObj ws n' := by
  refine ⟨if ws.toArray.size == us.toArray.size then k else k + 1, ?_⟩
  rw [← h]
  show _ = ({ cls := .type "list", data := .seq ws.toArray _ } : Obj)
  rw [← h]
  rfl

/-- o.append(e), o an own list -/
theorem EV.append {o e : Expr} {apos pos : Pos} {P : D → Own → Prop}
    (h : EV x env μ own o fun d o₁ => ∃ a c o', d = .mut a ∧ o₁.Perm ((a, .lst c) :: o') ∧ EV x env μ o₁ e fun d₂ o₂ => ∃ ds o₃, o₂.Perm ((a, .lst ds) :: o₃) ∧ ds.length ≤ sizeLine ∧ P .none ((a, .lst (ds ++ [d₂])) :: o₃))
    (hb : attributeBase o "append" env (eval o env) = eval o env := by rfl) (hs : starEach [e] env = [(false, eval e env)] := by rfl) (hl : (apos.endLine == pos.line) = true := by rfl) : EV x env μ own (.Call (.Attribute o "append" apos) [e] [] pos) P := fun fr g s Q E w kk => by
  refine Call_method1 hb hs hl (h fr g s _ E w fun d v o₁ g₁ s₁ w₁ l₁ r₁ p => ?_)
  obtain ⟨a, c, o', rfl, hp, h₂⟩ := p
  obtain rfl := r₁.mutI
  obtain ⟨vs, n, ha, r⟩ := w₁.ownList (List.mem_append_left fr (hp.symm.subset List.mem_cons_self))
  refine ⟨"list", "list.append", PySem.F.plainAttrs_list, PySem.F.slot_list_append, PySem.F.type_list_append, ⟨_, ha, rfl⟩, (fun b e => by cases e; exact ⟨_, ha, rfl⟩), ?_⟩
  refine PySem.P.append_list (h₂ fr g₁ s₁ _ E w₁ fun d₂ v₂ o₂ g₂ s₂ w₂ l₂ r₂ p₂ => ?_)
  obtain ⟨ds, o₃, hp₂, hsz, hP⟩ := p₂
  have w₃ : W x env.locals g₂ μ ((a, .lst ds) :: (o₃ ++ fr)) s₂ := w₂.ownPerm ((hp₂.append_right fr).symm)
  obtain ⟨us, k, hu, ru⟩ := w₃.ownList List.mem_cons_self
  refine ⟨us.toArray, k, by rw [List.size_toArray, ru.length]; exact hsz, hu, ?_⟩
  refine kk .none .none ((a, .lst (ds ++ [d₂])) :: o₃) g₂ _ (w₃.setList (us := us ++ [v₂]) (k := s₂.toks) hu (ru.append (RepL.cons r₂ RepL.nil)) ?_) (l₁.trans l₂) Rep.none' hP
  exact mapSeq_any (by simp)

/-- o.extend(e), o an own list -/
theorem EV.extend {o e : Expr} {apos pos : Pos} {P : D → Own → Prop}
    (h : EV x env μ own o fun d o₁ => ∃ a c o', d = .mut a ∧ o₁.Perm ((a, .lst c) :: o') ∧ EV x env μ o₁ e fun d₂ o₂ => ∃ ds es o₃, d₂ = .list es ∧ o₂.Perm ((a, .lst ds) :: o₃) ∧ ds.length + es.length ≤ sizeLine ∧ P .none ((a, .lst (ds ++ es)) :: o₃))
    (hb : attributeBase o "extend" env (eval o env) = eval o env := by rfl) (hs : starEach [e] env = [(false, eval e env)] := by rfl) (hl : (apos.endLine == pos.line) = true := by rfl) : EV x env μ own (.Call (.Attribute o "extend" apos) [e] [] pos) P := fun fr g s Q E w kk => by
  refine Call_method1 hb hs hl (h fr g s _ E w fun d v o₁ g₁ s₁ w₁ l₁ r₁ p => ?_)
  obtain ⟨a, c, o', rfl, hp, h₂⟩ := p
  obtain rfl := r₁.mutI
  obtain ⟨vs, n, ha, r⟩ := w₁.ownList (List.mem_append_left fr (hp.symm.subset List.mem_cons_self))
  refine ⟨"list", "list.extend", PySem.F.plainAttrs_list, PySem.F.slot_list_extend, PySem.F.type_list_extend, ⟨_, ha, rfl⟩, (fun b e => by cases e; exact ⟨_, ha, rfl⟩), ?_⟩
  refine PySem.P.extend_list (h₂ fr g₁ s₁ _ E w₁ fun d₂ v₂ o₂ g₂ s₂ w₂ l₂ r₂ p₂ => ?_)
  obtain ⟨ds, es, o₃, rfl, hp₂, hsz, hP⟩ := p₂
  have w₃ : W x env.locals g₂ μ ((a, .lst ds) :: (o₃ ++ fr)) s₂ := w₂.ownPerm ((hp₂.append_right fr).symm)
  obtain ⟨us, k, hu, ru⟩ := w₃.ownList List.mem_cons_self
  obtain ⟨b, ws, k2, rfl, hb2, rw2⟩ := r₂.listI
  have e1 : us.toArray.size = ds.length := by rw [List.size_toArray, ru.length]
  have e2 : ws.toArray.size = es.length := by rw [List.size_toArray, rw2.length]
  refine ⟨b, us.toArray, ws.toArray, k, k2, by rw [e1]; omega, by rw [e1, e2]; omega, extend_door (by rw [e1, e2]; exact hsz), rfl, hu, w₃.isL hb2, ?_⟩
  exact kk .none .none ((a, .lst (ds ++ es)) :: o₃) g₂ _ (w₃.setList (us := us ++ ws) (k := s₂.toks) hu (ru.append rw2) (mapSeq_any (by simp))) (l₁.trans l₂) Rep.none' hP

/-- len of an own list -/
theorem CallOk.len_mut {a : Addr} {ds : List D} {P : D → Prop} (hm : (a, .lst ds) ∈ own) (hfit : ds.length ≤ sizeLine) (h : P (.int ds.length)) : CallOk x own (.builtin "len") [.mut a] P := fun L g μ fr s vs Q E w r kk => by
  obtain ⟨v, rfl, rr⟩ := r.one
  obtain rfl := rr.mutI
  obtain ⟨us, n, ha, ru⟩ := w.ownList (List.mem_append_left fr hm)
  rw [sizeLine_eq] at hfit
  have e : (us.toArray.size : Int) = ds.length := by simp [ru.length]
  exact PyProof.Rows.len_list (items := us.toArray) ⟨_, ha, rfl, _, rfl⟩ (by rw [e]; omega) (by rw [e]; exact kk _ _ g _ (w.toks _) (G.le.refl g) (Rep.int' _) h)

/-- an item of an own list -/
theorem EV.indexMut {value slice : Expr} {pos : Pos} {P : D → Own → Prop}
    (h : EV x env μ own value fun d₁ o₁ => EV x env μ o₁ slice fun d₂ o₂ => ∃ a ds i d, d₁ = .mut a ∧ (a, .lst ds) ∈ o₂ ∧ d₂ = .int i ∧ i < 2 ^ 62 ∧ itemAt ds i = some d ∧ P d o₂)
    (hs : ∀ o i, subscripted slice false o i = operate [o, i] (getItem o i) := by intro _ _; with_unfolding_all rfl) : EV x env μ own (.Subscript value slice pos) P := fun fr g s Q E w kk => by
  refine PyProof.Rows.Subscript_ (h fr g s _ E w fun d₁ v₁ o₁ g₁ s₁ w₁ l₁ r₁ h₁ => h₁ fr g₁ s₁ _ E w₁ fun d₂ v₂ o₂ g₂ s₂ w₂ l₂ r₂ h₂ => ?_)
  obtain ⟨a, ds, i, d, rfl, hm, rfl, hi, hit, hP⟩ := h₂
  obtain ⟨t, rfl⟩ := r₂.intI
  obtain rfl := r₁.mutI
  obtain ⟨vs, n, ha, r⟩ := w₂.ownList (List.mem_append_left fr hm)
  unfold itemAt at hit
  split at hit
  case isFalse => cases hit
  case isTrue h0 =>
    obtain ⟨v, hv, rv⟩ := r.get hit
    have hL : s₂.heap.IsList a vs.toArray := ⟨_, ha, rfl, _, rfl⟩
    have hx : vs.toArray[i.toNat]? = some v := by simpa using hv
    have hq := wpAny_getItem_list (prog := x.prog) (w := x.w) (A := x.A) (E := E) (t := t) (Q := Q) hL h0 (by omega) hx (kk d v o₂ g₂ s₂ w₂ (l₁.trans l₂) rv hP)
    exact tail_any hL.typeIs slot_list_getitem.lookup hq (hs _ _)

theorem RepL.set {g : G} : ∀ {ds : List D} {vs : List Value} {d : D} {v : Value} (i : Nat), RepL g ds vs → Rep g d v → RepL g (ds.set i d) (vs.set i v)
  | [], _, _, _, _, x, _ => by rw [RepL] at x; subst x; simpa using RepL.nil
  | e :: ds, vs, d, v, i, x, h => by
    rw [RepL] at x
    obtain ⟨u, r, rfl, h1, h2⟩ := x
    cases i with
    | zero => exact RepL.cons h h2
    | succ i => exact RepL.cons h1 (RepL.set i h2 h)

open Sem (wp) in
/-- o[i] = value, o an own list -/
theorem EX1.setItem {o i value : Expr} {pos' pos : Pos} {P : FlowD → Mu → Own → Prop}
    (h : EV x env μ own value fun d o₁ => EV x env μ o₁ o fun d₁ o₂ => EV x env μ o₂ i fun d₂ o₃ => ∃ (a : Addr) (ds : List D) (o₄ : Own) (j : Nat), d₁ = .mut a ∧ o₃.Perm ((a, .lst ds) :: o₄) ∧ d₂ = .int j ∧ j < ds.length ∧ ds.length ≤ sizeLine ∧ P .next μ ((a, .lst (ds.set j d)) :: o₄))
    (hs : swapsWith value (some (.Subscript o i pos')) pos.line env = pure false := by rfl) : EX1 x env μ own (.Assign [.Subscript o i pos'] value pos) P := fun fr g s Q E w kk => by
  refine wpAny_Assign_Subscript (hs := hs) (h fr g s _ E w fun d v o₁ g₁ s₁ w₁ l₁ r₁ h₁ => h₁ fr g₁ s₁ _ E w₁ fun d₁ v₁ o₂ g₂ s₂ w₂ l₂ r₂ h₂ => h₂ fr g₂ s₂ _ E w₂ fun d₂ v₂ o₃ g₃ s₃ w₃ l₃ r₃ p => ?_)
  obtain ⟨a, ds, o₄, j, rfl, hp, rfl, hj, hsz, hP⟩ := p
  obtain rfl := r₂.mutI
  obtain ⟨t, rfl⟩ := r₃.intI
  have w₄ : W x env.locals g₃ μ ((a, .lst ds) :: (o₄ ++ fr)) s₃ := w₃.ownPerm ((hp.append_right fr).symm)
  obtain ⟨vs, n, ha, r⟩ := w₄.ownList List.mem_cons_self
  have hlen := r.length
  have hL : s₃.heap.IsList a vs.toArray := ⟨_, ha, rfl, _, rfl⟩
  rw [sizeLine_eq] at hsz
  have w₅ : W x env.locals g₃ μ ((a, .lst (ds.set j d)) :: (o₄ ++ fr)) { s₃ with heap := s₃.heap.update a (Obj.mapSeq (·.setIfInBounds j v)), toks := s₃.toks } :=
    w₄.setList (us := vs.set j v) ha (r.set j (r₁.mono (l₂.trans l₃))) (mapSeq_any (by simp))
  exact ki_setAt ha (Int.natCast_nonneg j) (by omega) (by rw [List.size_toArray]; omega) (kk .next .next μ ((a, .lst (ds.set j d)) :: o₄) g₃ _ w₅ (l₁.trans (l₂.trans l₃)) rfl hP)
end
end Fill66
end
noncomputable section
open PySem PySem.W PyProof.Rows
set_option maxRecDepth 100000
namespace Fill66

/-- targets one by one -/
def ASL (x : Cx) (env : Env) : Mu → Own → List Expr → List D → (Mu → Own → Prop) → Prop
  | μ, o, [], [], P => P μ o
  | μ, o, t :: ts, d :: ds, P => assignEach (t :: ts) env = (false, assign t env) :: assignEach ts env ∧ AS x env μ o t d fun μ' o' => ASL x env μ' o' ts ds P
  | _, _, _, _, _ => False

section
variable {x : Cx} {env : Env} {μ : Mu} {own : Own}

theorem W.ext0 {L : Addr} {g : G} {s : Shared} {h' : Heap} (w : W x L g μ own s) (he : Heap.ExtBut s.heap.objs.size s.heap h') : W x L g μ own { s with heap := h' } :=
  W.step (cs := []) (cs' := []) w (List.nil_sublist _) (fun a o _ e => he a o (Nat.ne_of_lt (Heap.lt_size e)) e) rfl rfl nofun

theorem ASL.run {env : Env} : ∀ {ts : List Expr} {ds : List D} {μ : Mu} {own : Own} {P : Mu → Own → Prop}, ASL x env μ own ts ds P → ∀ (fr : Own) (g : G) (s : Shared) (vs : List Value) (Q : Unit → Shared → Prop) (E : Value → Shared → Prop), W x env.locals g μ (own ++ fr) s → RepL g ds vs →
    (∀ μ' own' g' s', W x env.locals g' μ' (own' ++ fr) s' → G.le g g' → P μ' own' → Q () s') → wpAny (model x.prog x.w) x.A (assignInOrder ((assignEach ts env).map (·.2)) vs) Q E s
  | [], [], μ, own, P, h, fr, g, s, vs, Q, E, w, r, kk => by
    rw [RepL] at r; subst r
    exact wpAny_pure (kk μ own g s w (G.le.refl g) h)
  | t :: ts, d :: ds, μ, own, P, h, fr, g, s, vs, Q, E, w, r, kk => by
    rw [RepL] at r
    obtain ⟨v, us, rfl, h1, h2⟩ := r
    obtain ⟨he, ha⟩ := h
    rw [he]
    show wpAny _ _ (do holding us (assign t env v); assignInOrder ((assignEach ts env).map (·.2)) us) Q E s
    refine wpAny_bind (wpAny_holding (ha fr g s v _ E w h1 fun μ' o' g' s' w' l' p' => ?_))
    exact ASL.run p' fr g' s' us Q E w' (h2.mono l') fun μ'' o'' g'' s'' w'' l'' p'' => kk μ'' o'' g'' s'' w'' (l'.trans l'') p''
  | [], _ :: _, _, _, _, h, _, _, _, _, _, _, _, _, _ => h.elim
  | _ :: _, [], _, _, _, h, _, _, _, _, _, _, _, _, _ => h.elim

/-- a tuple of targets takes a tuple -/
theorem AS.tuple {ts : List Expr} {k : Nat} {pos : Pos} {ds : List D} {P : Mu → Own → Prop} (h : ASL x env μ own ts ds P) (hn : (assignEach ts env).length = ds.length) (hstar : (assignEach ts env).findIdx? (·.1) = none := by rfl) : AS x env μ own (.Tuple ts k pos) (.tup ds) P :=
  fun fr g s v Q E w r kk => by
    obtain ⟨a, vs, n, rfl, ha, r⟩ := r.tupI
    refine assign_Tuple_tuple w.room.handled ⟨_, w.ext.gh _ _ ha, rfl, _, rfl⟩ (by rw [hn, List.size_toArray, r.length]) hstar fun h' he => ?_
    exact h.run fr g _ vs Q E (w.ext0 he) r kk

theorem EX1.assignTup {ts : List Expr} {k : Nat} {tpos pos : Pos} {value : Expr} {P : FlowD → Mu → Own → Prop} (h : EV x env μ own value fun d o => AS x env μ o (.Tuple ts k tpos) d fun μ' o' => P .next μ' o')
    (hs : swapsWithSole [.Tuple ts k tpos] value pos.line env = pure false := by rfl) (hw : swappedStores [.Tuple ts k tpos] value env = pure none := by rfl) : EX1 x env μ own (.Assign [.Tuple ts k tpos] value pos) P := fun fr g s Q E w kk =>
  PyProof.Rows.Assign_Tuple (hs := hs) (hw := hw) (h fr g s _ E w fun d v o g₁ s₁ w₁ l₁ r₁ p => p fr g₁ s₁ v _ E w₁ r₁ fun μ' o' g' s' w' l' p' => kk .next .next μ' o' g' s' w' (l₁.trans l') rfl p')

/-- three names take three values, the last first -/
theorem EX1.assignSwap {ts : List Expr} {k : Nat} {tpos pos : Pos} {value : Expr} {n1 n2 n3 : Str} {P : FlowD → Mu → Own → Prop} (hw : swappedStores [.Tuple ts k tpos] value env = pure (some [n1, n2, n3]))
    (h : EV x env μ own value fun d o => ∃ d1 d2 d3, d = .tup [d1, d2, d3] ∧ P .next (((μ.set n3 d3).set n2 d2).set n1 d1) o)
    (hs : swapsWithSole [.Tuple ts k tpos] value pos.line env = pure false := by rfl) (hk : env.scope.kind = .function := by rfl) (hl1 : env.kindOf n1 = some .local := by rfl) (hl2 : env.kindOf n2 = some .local := by rfl) (hl3 : env.kindOf n3 = some .local := by rfl) :
    EX1 x env μ own (.Assign [.Tuple ts k tpos] value pos) P := fun fr g s Q E w kk =>
  PyProof.Rows.Assign_Tuple_swapped (hs := hs) (hw := hw) (h fr g s _ E w fun d v o g₁ s₁ w₁ l₁ r₁ p => by
    obtain ⟨d1, d2, d3, rfl, hP⟩ := p
    obtain ⟨a, vs, n, rfl, ha, r⟩ := r₁.tupI
    rw [RepL] at r
    obtain ⟨v1, us, rfl, q1, r⟩ := r
    obtain ⟨v2, v3, rfl, q2, q3⟩ := r.two
    refine unpackItems_tuple (items := #[v1, v2, v3]) w₁.room.handled ⟨_, w₁.ext.gh _ _ ha, rfl, _, rfl⟩ fun h' he => ?_
    have w₂ := w₁.ext0 he
    have hp : (env.scope.kind == .class || (env.scope.kind == .module && env.locals != env.globals)) = false := by rw [hk]; rfl
    show wpAny _ _ (do holding [v2, v1] (bindName env n3 v3); (do holding [v1] (bindName env n2 v2); (do holding [] (bindName env n1 v1); pure ()))) _ _ _
    obtain ⟨m, hn, hm⟩ := w₂.ns
    refine wpAny_bind (wpAny_holding (wpAny_bindName (wpAny_storeName_local hl3 hn (fun h3 hn3 hs3 => ?_) hp)))
    have w₃ := w₂.store (k := s₁.toks + 1) q3 hm hn3 hs3
    obtain ⟨m, hn, hm⟩ := w₃.ns
    refine wpAny_bind (wpAny_holding (wpAny_bindName (wpAny_storeName_local hl2 hn (fun h4 hn4 hs4 => ?_) hp)))
    have w₄ := w₃.store (k := s₁.toks + 1 + 1) q2 hm hn4 hs4
    obtain ⟨m, hn, hm⟩ := w₄.ns
    refine wpAny_bind (wpAny_holding (wpAny_bindName (wpAny_storeName_local hl1 hn (fun h5 hn5 hs5 => ?_) hp)))
    have w₅ := w₄.store (k := s₁.toks + 1 + 1 + 1) q1 hm hn5 hs5
    exact wpAny_pure (kk .next .next _ o g₁ _ w₅ l₁ rfl hP))
end
end Fill66
end
noncomputable section
open PySem PySem.W PyProof.Rows
set_option maxRecDepth 100000
namespace Fill66

def cEnv (scope : Scope) (L : Addr) (env : Env) : Env := { scope := scope, locals := L, globals := env.globals, cells := [], qual := env.qual, func := none, code := env.code, frame := env.frame, builtins := env.builtins }

section
variable {prog : Program} {w : World} {A : Around} {E : Value → Shared → Prop} {R : Result → Shared → Prop} {s : Shared}
theorem append_exact {l : Addr} {vs : List Value} {n : Nat} {v : Value} {Q : Value → Shared → Prop} (ho : s.heap.get? l = some (LObj vs n)) (hsz : vs.length ≤ sizeLine)
    (hQ : Q .none { s with heap := s.heap.update l (Obj.mapSeq (·.push v)) }) : wpAny (model prog w) A (call (.builtin "list.append") [.ref l, v]) Q E s :=
  call_meets PySem.F.slot_list_append ⟨_, ho, rfl⟩ PySem.F.entry_list_append (PySem.F.args_list_append_2 _ _) (list_append l vs.toArray n v (by rw [List.size_toArray]; exact hsz)) ⟨ho, hQ⟩
end

section
variable {x : Cx} {env : Env} {μ : Mu} {own : Own}

theorem W.adopt {L : Addr} {g : G} {s : Shared} {a : Addr} {p : Obj → Prop} (w : W x L g μ own s) (ha : ∃ o, s.heap.get? a = some o ∧ p o) (hn : x.s₀.heap.objs.size ≤ a) (hL : a ≠ L) (hg : g a = none) (ho : ∀ q ∈ own, q.1 ≠ a) : W x L g μ ((a, .obj p) :: own) s :=
  { w with
    own := fun q hq => by
      rcases List.mem_cons.mp hq with rfl | hq
      · exact ⟨ha, Nat.le_trans w.tb hn, .inl hn, hL, hg⟩
      · exact w.own q hq
    nodup := by
      rw [List.map_cons, List.nodup_cons]
      exact ⟨fun hm => by obtain ⟨q, hq, e⟩ := List.mem_map.mp hm; exact ho q hq e, w.nodup⟩ }

/-- the loop of a comprehension, in its own frame -/
theorem compRun {L : Addr} {elt target iter : Expr} {scope : Scope} {pos : Pos} {it : Value} {acc : Addr} {gi g : G} {s : Shared} {n : Nat} {item : Nat → D} {cells : Nat → Own} {f : Nat → D} {R : Result → Shared → Prop}
    (w : W x L g [] (cells 0 ++ [(acc, .lst [])]) s) (le : G.le gi g) (It : It x gi target it n item cells) (hn : n ≤ sizeLine)
    (step : ∀ k μ, k < n → AS x (cEnv scope L env) μ [] target (item k) fun μ' o => EV x (cEnv scope L env) μ' o elt fun d o' => d = f k ∧ o' = [])
    (hR : ∀ g' μ' s', W x L g' μ' [(acc, .lst ((List.range n).map f))] s' → G.le g g' → R (.ok .next) s') :
    codeAny (model x.prog x.w) x.A (.compLoop (.ListComp elt [⟨target, iter, [], 0⟩] scope pos) 0 it (.ref acc) (cEnv scope L env)) R s := by
  refine kcp_loop (fun j s' => ∃ k μ' g', j = n - k ∧ k ≤ n ∧ W x L g' μ' (cells k ++ [(acc, .lst ((List.range k).map f))]) s' ∧ G.le g g') (fun j s₂ hI => ?_) n ⟨0, [], g, rfl, Nat.zero_le _, w, G.le.refl g⟩
  obtain ⟨k, μ₂, g₂, rfl, hk, w₂, l₂⟩ := hI
  rcases Nat.lt_or_eq_of_le hk with hlt | rfl
  · refine It.next k hlt _ g₂ μ₂ _ s₂ _ _ w₂ (le.trans l₂) fun v s₃ hlet => ?_
    show wpAny _ _ _ _ _ _
    refine hlet _ _ fun g₄ s₄ w₄ l₄ r₄ => ?_
    have w₄' : W x (cEnv scope L env).locals g₄ μ₂ ([] ++ (cells (k + 1) ++ [(acc, Cell.lst ((List.range k).map f))])) s₄ := w₄
    refine step k μ₂ hlt (cells (k + 1) ++ [(acc, Cell.lst ((List.range k).map f))]) g₄ s₄ v _ _ w₄' r₄ fun μ₅ o₅ g₅ s₅ w₅ l₅ p₅ => ?_
    refine p₅ (cells (k + 1) ++ [(acc, Cell.lst ((List.range k).map f))]) g₅ s₅ _ _ w₅ fun d₆ v₆ o₆ g₆ s₆ w₆ l₆ r₆ p₆ => ?_
    obtain ⟨rfl, rfl⟩ := p₆
    have w₇ : W x L g₆ μ₅ ((acc, .lst ((List.range k).map f)) :: cells (k + 1)) s₆ := w₆.ownPerm (by
      rw [List.nil_append]
      exact (List.perm_append_comm (l₁ := [(acc, Cell.lst ((List.range k).map f))]) (l₂ := cells (k + 1))))
    obtain ⟨vs, m, ha, rv⟩ := w₇.ownList List.mem_cons_self
    refine append_exact ha (by rw [rv.length, List.length_map, List.length_range]; omega) ⟨n - (k + 1), by omega, k + 1, μ₅, g₆, rfl, hlt, ?_, l₂.trans (l₄.trans (l₅.trans l₆))⟩
    have w₈ := w₇.setList (us := vs ++ [v₆]) (es := (List.range (k + 1)).map f) (k := s₆.toks) ha (by
      rw [List.range_succ, List.map_append]
      exact rv.append (RepL.cons r₆ RepL.nil)) (mapSeq_any (f := fun x => x.push v₆) (by simp))
    exact w₈.ownPerm (List.perm_append_comm (l₁ := cells (k + 1)) (l₂ := [(acc, Cell.lst ((List.range (k + 1)).map f))]))
  · exact It.stop _ g₂ μ₂ _ s₂ _ _ w₂ (le.trans l₂) fun s₃ w₃ => hR g₂ μ₂ s₃ w₃ l₂

/-- what stands when the loop of a comprehension is over: the outer frame again, the list, the inner names aside -/
theorem compDone {L' : Addr} {g₁ g' : G} {s₁ s' : Shared} {μ' : Mu} {acc : Addr} {es : List D} {own' : Own} (w₁ : W x env.locals g₁ μ own' s₁) (hL : s₁.heap.objs.size ≤ L') (w' : W { x with s₀ := s₁, g₀ := g₁, lent := none } L' g' μ' [(acc, .lst es)] s') :
    ∃ g'', W x env.locals g'' μ ((L', .obj fun _ => True) :: own') s' ∧ G.le g₁ g'' ∧ Rep g'' (.list es) (.ref acc) ∧ ∃ m, s'.heap.Ns L' m := by
  obtain ⟨g'', w'', l'', r''⟩ := w'.freeze nofun
  have w₂ := w₁.call w''.ext
  obtain ⟨m, hn, _⟩ := w''.ns
  refine ⟨g'', w₂.adopt (p := fun _ => True) ⟨_, hn.choose_spec.choose_spec.choose_spec.1, trivial⟩ (Nat.le_trans w₁.ext.size hL) (Nat.ne_of_gt (Nat.lt_of_lt_of_le w₁.Llt hL)) w''.gL (fun q hq => Nat.ne_of_lt (Nat.lt_of_lt_of_le (w₁.ownlt hq) hL)), w''.ext.gg, r'', m, hn⟩

theorem compBlock {elt target iter : Expr} {scope : Scope} {pos : Pos} {xv : Value} {g₁ : G} {s₁ : Shared} {own' : Own} {mk : Obj} {c0 : Cell} {n : Nat} {item : Nat → D} {cells : Nat → Own} {f : Nat → D} {E : Value → Shared → Prop} {RR : Value → Env → Result → Shared → Prop}
    (w₁ : W x env.locals g₁ μ own' s₁) (hn : n ≤ sizeLine)
    (hiter : ∀ (Q : Value → Shared → Prop) (E : Value → Shared → Prop), Q (.ref s₁.heap.objs.size) { s₁ with heap := s₁.heap.push mk } → wpAny (model x.prog x.w) x.A (pyIter xv) Q E s₁)
    (hfr : mk.isFreed = false) (hc0 : cells 0 = [(s₁.heap.objs.size, c0)]) (hcell0 : ∀ h : Heap, h.get? s₁.heap.objs.size = some mk → CellIs g₁ h s₁.heap.objs.size c0)
    (hIt : ∀ x' : Cx, x'.prog = x.prog → x'.w = x.w → It x' g₁ target (.ref s₁.heap.objs.size) n item cells)
    (hagain : ∀ (A : Around) (s : Shared) (Q : Value → Shared → Prop) (E : Value → Shared → Prop), s.heap.get? s₁.heap.objs.size = some mk → Q (.ref s₁.heap.objs.size) s → wpAny (model x.prog x.w) A (pyIter (.ref s₁.heap.objs.size)) Q E s)
    (hcell : ∀ y ∈ scope.names, y.2 ≠ .cell) (hkind : scope.kind = .function)
    (step : ∀ (x' : Cx) (L' : Addr) (k : Nat) (μ : Mu), x'.k = x.k → k < n → AS x' (cEnv scope L' env) μ [] target (item k) fun μ' o => EV x' (cEnv scope L' env) μ' o elt fun d o' => d = f k ∧ o' = [])
    (hR : ∀ (g'' : G) (acc L' : Addr) (s' : Shared) (m : Str → Option Value), W x env.locals g'' μ ((L', .obj fun _ => True) :: own') s' → G.le g₁ g'' → Rep g'' (.list ((List.range n).map f)) (.ref acc) → s'.heap.Ns L' m → RR (.ref acc) (cEnv scope L' env) (.ok .next) s') :
    wpAny (model x.prog x.w) x.A (pyIter xv) (fun it s₂ => wpAny (model x.prog x.w) x.A (newList []) (fun acc s₃ =>
      wpAny (model x.prog x.w) x.A (newFunctionEnv scope env.globals [] [] env.qual none .none (some env)) (fun cenv s₄ =>
        codeAny (model x.prog x.w) x.A (.compStart (.ListComp elt [⟨target, iter, [], 0⟩] scope pos) 0 it acc { cenv with scope := scope }) (RR acc { cenv with scope := scope }) s₄) E s₃) E s₂) E s₁ := by
  refine hiter _ _ (wpAny_newObj_type (hd := by size_fits) (wpAny_newFunctionEnv hcell (by intro y hy; simp at hy) (fun h₁ hns hsb => ?_) hkind))
  dsimp only at hns hsb ⊢
  generalize hH1 : s₁.heap.push mk = H1 at hns hsb ⊢
  have z1 : H1.objs.size = s₁.heap.objs.size + 1 := by rw [← hH1, Heap.size_push]
  generalize hH2 : H1.push { cls := .type "list", dict := none, data := .seq ([] : List Value).toArray } = H2 at hns hsb ⊢
  have z2 : H2.objs.size = s₁.heap.objs.size + 2 := by rw [← hH2, Heap.size_push, z1]
  have keep1 : ∀ b o, H1.get? b = some o → h₁.get? b = some o := fun b o e => by
    have hb := Heap.lt_size e
    rw [z1] at hb
    exact hsb.extBut b o (by rw [z2]; exact Nat.ne_of_lt (Nat.lt_succ_of_lt hb)) (Heap.get?_push_of_some _ (hH2 ▸ Heap.get?_push_of_some _ e))
  have keep0 : ∀ b o, s₁.heap.get? b = some o → h₁.get? b = some o := fun b o e => keep1 b o (hH1 ▸ Heap.get?_push_of_some _ e)
  have hmk : h₁.get? s₁.heap.objs.size = some mk := keep1 _ _ (hH1 ▸ Heap.get?_push_size _ hfr)
  have hacc : h₁.get? H1.objs.size = some (LObj [] 0) := by
    have e : H2.get? H1.objs.size = some (LObj [] 0) := hH2 ▸ Heap.get?_push_size _ rfl
    exact hsb.extBut _ _ (by rw [z1, z2]; exact Nat.ne_of_lt (Nat.lt_succ_self _)) (Heap.get?_push_of_some _ e)
  let x' : Cx := { x with s₀ := s₁, g₀ := g₁, lent := none }
  have w₄ : W x' H2.objs.size g₁ [] (cells 0 ++ [(H1.objs.size, .lst [])]) { s₁ with heap := h₁, toks := s₁.toks + ([] : List (Str × Value)).length } := {
    tf := w₁.tf
    room := w₁.room
    ext := ⟨fun b o e _ => keep0 b o e, Nat.le_of_lt (by have := hns.lt; rw [z2] at this; exact Nat.lt_trans (Nat.lt_succ_of_lt (Nat.lt_succ_self _)) this), rfl, rfl, G.le.refl g₁, fun b o e => keep0 _ _ (w₁.ext.gh b o e), fun b hb => .inl hb⟩
    tb := Nat.le_trans w₁.tb w₁.ext.size
    top := fun b o e => keep0 _ _ (w₁.top b o e)
    ns := ⟨_, hns, fun y d e => by simp [Mu.get] at e⟩
    Lb := by show s₁.heap.objs.size ≤ _; rw [z2]; omega
    gL := w₁.gsize (by rw [z2]; omega)
    own := fun q hq => by
      rw [hc0] at hq
      have tt := Nat.le_trans w₁.tb w₁.ext.size
      rcases List.mem_cons.mp hq with rfl | hq
      · exact ⟨hcell0 _ hmk, tt, .inl (Nat.le_refl _), by rw [z2]; exact Nat.ne_of_lt (by omega), w₁.gsize (Nat.le_refl _)⟩
      · obtain rfl : q = (H1.objs.size, .lst []) := by simpa using hq
        exact ⟨⟨[], 0, hacc, RepL.nil⟩, by show x.t.objs.size ≤ H1.objs.size; rw [z1]; omega, .inl (by show s₁.heap.objs.size ≤ H1.objs.size; rw [z1]; omega), by show H1.objs.size ≠ _; rw [z1, z2]; exact Nat.ne_of_lt (by omega), w₁.gsize (by show s₁.heap.objs.size ≤ H1.objs.size; rw [z1]; omega)⟩
    nodup := by rw [hc0]; simp [z1]
    lentT := nofun }
  have run : codeAny (model x.prog x.w) x.A (.compLoop (.ListComp elt [⟨target, iter, [], 0⟩] scope pos) 0 (.ref s₁.heap.objs.size) (.ref H1.objs.size) (cEnv scope H2.objs.size env)) (RR (.ref H1.objs.size) (cEnv scope H2.objs.size env)) { s₁ with heap := h₁, toks := s₁.toks + ([] : List (Str × Value)).length } :=
    compRun (x := x') w₄ (G.le.refl g₁) (hIt x' rfl rfl) hn (fun k μ hk => step x' H2.objs.size k μ rfl hk) fun g' μ' s' w' _ => by
      obtain ⟨g'', w2, l2, r2, m, hm⟩ := compDone w₁ (by rw [z2]; omega) w'
      exact hR g'' _ _ s' m w2 l2 r2 hm
  exact codeAny_compStart_list run (hagain _ _ _ _ hmk run)

theorem W.dropL {L' : Addr} {g : G} {s : Shared} {h' : Heap} {own' : Own} (w : W x env.locals g μ ((L', .obj fun _ => True) :: own') s) (hs : Heap.SameBut L' s.heap h') : W x env.locals g μ own' { s with heap := h' } :=
  W.step (cs := [(L', .obj fun _ => True)]) (cs' := []) w (List.nil_sublist _) (fun a o ha e => hs.extBut a o (ha _ List.mem_cons_self) e) rfl rfl nofun

/-- [elt for target in iter], iter a list -/
theorem EV.comp {elt target iter : Expr} {scope : Scope} {pos : Pos} {P : D → Own → Prop} (d₀ : D) (f : D → D)
    (h : EV x env μ own iter fun d o => ∃ ds, d = .list ds ∧ ds.length ≤ sizeLine ∧ (∀ (x' : Cx) (L' : Addr) (μ : Mu) (e : D), x'.k = x.k → e ∈ ds → AS x' (cEnv scope L' env) μ [] target e fun μ' o => EV x' (cEnv scope L' env) μ' o elt fun d o' => d = f e ∧ o' = []) ∧ P (.list (ds.map f)) o)
    (hfree : ∀ y ∈ scope.names, y.2 ≠ .free := by decide) (hkind : scope.kind = .function := by rfl) (hnames : ∀ y ∈ scope.names, y.2 = .local → scope.names.lookup y.1 = some .local := by decide) (hcell : ∀ y ∈ scope.names, y.2 ≠ .cell := by decide)
    (hs : ∀ v, foldedSetIterable iter env v = pure v := by intro _; rfl) : EV x env μ own (.ListComp elt [⟨target, iter, [], 0⟩] scope pos) P := fun fr g s Q E w kk => by
  refine wpAny_ListComp (hs := hs) hfree hkind hnames (h fr g s _ E w fun d v o g₁ s₁ w₁ l₁ r₁ p => ?_)
  obtain ⟨ds, rfl, hsz, hel, hP⟩ := p
  obtain ⟨l, vs, n, rfl, hl, r⟩ := r₁.listI
  refine compBlock (RR := fun acc cenv r s' => ∃ m, s'.heap.Ns cenv.locals m ∧ ∀ h', Heap.SameBut cenv.locals s'.heap h' →
      match r with | .ok _ => Q acc { s' with heap := h' } | .error z => wpAny (model x.prog x.w) x.A (passOn "comprehension.variables-let-go" z { cenv with scope := scope }) Q E { s' with heap := h' }) (f := fun k => f (ds.getD k d₀)) (cells := fun k => [(s₁.heap.objs.size, LIter l k)]) (item := fun k => ds.getD k d₀) (n := ds.length) w₁ hsz (fun Q E hq => wpAny_pyIter_list (w₁.isL hl).isList hq) rfl rfl (fun h e => ⟨_, e, rfl, rfl⟩) (fun x' hp hw => It.list hl r)
    (fun A s Q E e hq => wpAny_pyIter_listiter (l := l) (i := 0) ⟨_, e, rfl, rfl⟩ hq) hcell hkind (fun x' L' k μ hk hkn => hel x' L' μ _ hk (by rw [List.getD_eq_getElem?_getD, List.getElem?_eq_getElem hkn]; exact List.getElem_mem _)) fun g'' acc L' s' m w' l' r' hm => ?_
  refine ⟨m, hm, fun h' hs' => kk _ _ o g'' _ (w'.dropL hs') (l₁.trans l') ?_ hP⟩
  have e : (List.range ds.length).map (fun k => f (ds.getD k d₀)) = ds.map f := by
    apply List.ext_getElem (by simp)
    intro i h1 h2
    simp only [List.length_map, List.length_range] at h1
    simp [List.getD_eq_getElem?_getD, h1]
  rw [e] at r'
  exact r'
end
end Fill66
end
noncomputable section
open PySem PySem.W PyProof.Rows
set_option maxRecDepth 100000
namespace Fill66

section
variable {x : Cx} {env : Env} {μ : Mu} {own : Own}

def SIter (y : Str) (t : Tok) (k : Nat) : Cell := .obj fun o => o.cls = .type "str_ascii_iterator" ∧ o.data = .fields #[.str y t, .int k 0]

theorem It.str {target : Expr} {it : Addr} {gi : G} {y : Str} {t : Tok} {c₀ : Nat} : It x gi target (.ref it) y.cps.size (fun k => .str ⟨#[y.cps.toList.getD k c₀]⟩) (fun k => [(it, SIter y t k)]) where
  next := fun k hk L g μ own s Q E w le kk => by
    obtain ⟨⟨o, ho, hc, hd⟩, _⟩ := w.own _ List.mem_cons_self
    have hx : y.cps[k]? = some (y.cps.toList.getD k c₀) := by
      rw [List.getD_eq_getElem?_getD, Array.getElem?_toList, Array.getElem?_eq_getElem hk]; rfl
    refine wpAny_pyNext_ascii_item (x := y) (t := t) (i := k) ⟨o, ho, hc, hd⟩ hx fun h' hi hs => kk _ _ fun Q' E' kk' => ?_
    obtain ⟨o', h1, h2, h3⟩ := hi
    refine letGo_other h1 (.inr (.inr (.inl h2))) (kk' g _ (W.step (cs := [(it, SIter y t k)]) (cs' := [(it, SIter y t (k + 1))]) w (List.Sublist.refl _) (fun a o ha e => (hs.2 a (ha _ List.mem_cons_self)).trans e) rfl rfl (fun p hp => ?_)) (G.le.refl g) (Rep.str' _))
    obtain rfl : p = (it, SIter y t (k + 1)) := by simpa using hp
    exact ⟨o', h1, h2, h3⟩
  stop := fun L g μ own s Q E w le kk => by
    obtain ⟨⟨o, ho, hc, hd⟩, _⟩ := w.own _ List.mem_cons_self
    exact wpAny_pyNext_ascii_end (x := y) (t := t) (i := y.cps.size) w.room.handled ⟨o, ho, hc, hd⟩ (Array.getElem?_eq_none (Nat.le_refl _)) fun h' hs => kk _ (W.step (cs := [(it, SIter y t y.cps.size)]) (cs' := []) w (List.nil_sublist _) (fun a o ha e => hs a o (ha _ List.mem_cons_self) e) rfl rfl nofun)

/-- nm = [elt for target in iter], iter a text of ASCII signs -/
theorem EX1.compStr {elt target iter : Expr} {scope : Scope} {cpos pos' pos : Pos} {nm : Str} {P : FlowD → Mu → Own → Prop} (f : Nat → D)
    (h : EV x env μ own iter fun d o => ∃ y : Str, d = .str y ∧ y.cps.all (· < 128) = true ∧ y.cps.size ≤ sizeLine ∧ (∀ (x' : Cx) (L' : Addr) (μ : Mu) (c : Nat), x'.k = x.k → AS x' (cEnv scope L' env) μ [] target (.str ⟨#[c]⟩) fun μ' o => EV x' (cEnv scope L' env) μ' o elt fun d o' => d = f c ∧ o' = []) ∧ P .next (μ.set nm (.list (y.cps.toList.map f))) o)
    (hw : swapsWith (.ListComp elt [⟨target, iter, [], 0⟩] scope cpos) (some (.Name nm pos')) pos.line env = pure true := by rfl)
    (hfree : ∀ y ∈ scope.names, y.2 ≠ .free := by decide) (hkind : scope.kind = .function := by rfl) (hnames : ∀ y ∈ scope.names, y.2 = .local → scope.names.lookup y.1 = some .local := by decide) (hcell : ∀ y ∈ scope.names, y.2 ≠ .cell := by decide)
    (hs : ∀ v, foldedSetIterable iter env v = pure v := by intro _; rfl) (hk : env.scope.kind = .function := by rfl) (hl : env.kindOf nm = some .local := by rfl) : EX1 x env μ own (.Assign [.Name nm pos'] (.ListComp elt [⟨target, iter, [], 0⟩] scope cpos) pos) P := fun fr g s Q E w kk => by
  rw [exec_Assign_Name_used nm pos' _ pos hw]
  refine wpAny_bind (wpAny_standAt (wpAny_bind ?_))
  show wpAny _ _ (do let _ ← comprehension (.ListComp elt [⟨target, iter, [], 0⟩] scope cpos) scope env (firstIterPos [⟨target, iter, [], 0⟩] cpos) (newList []) (firstAsync [⟨target, iter, [], 0⟩]) (firstIter [⟨target, iter, [], 0⟩] env) (some (PySem.assign (.Name nm pos') env))) _ _ s
  refine wpAny_bind (wpAny_comprehension_use rfl hs hfree hkind hnames (h fr g s _ E w fun d v o g₁ s₁ w₁ l₁ r₁ p => ?_))
  obtain ⟨y, rfl, hasc, hsz, hel, hP⟩ := p
  obtain ⟨t, rfl⟩ := r₁.strI
  refine compBlock (RR := fun acc cenv r s' => match r with
          | .ok _ => wpAny (model x.prog x.w) x.A (PySem.assign (.Name nm pos') env acc) (fun _ s'' => ∃ m, s''.heap.Ns cenv.locals m ∧ ∀ h', Heap.SameBut cenv.locals s''.heap h' → wpAny (model x.prog x.w) x.A (pure ()) (fun _ s' => wpAny (model x.prog x.w) x.A (pure Flow.next) Q E s') E { s'' with heap := h' }) E s'
          | .error z => ∃ m, s'.heap.Ns cenv.locals m ∧ ∀ h', Heap.SameBut cenv.locals s'.heap h' → wpAny (model x.prog x.w) x.A (passOn "comprehension.variables-let-go" z { cenv with scope := scope }) (fun _ s' => wpAny (model x.prog x.w) x.A (pure ()) (fun _ s' => wpAny (model x.prog x.w) x.A (pure Flow.next) Q E s') E s') E { s' with heap := h' })
    (f := fun k => f (y.cps.toList.getD k 0)) (cells := fun k => [(s₁.heap.objs.size, SIter y t k)]) (item := fun k => .str ⟨#[y.cps.toList.getD k 0]⟩) (n := y.cps.size) w₁ hsz (fun Q E hq => wpAny_pyIter_ascii hasc hq) rfl rfl (fun h e => ⟨_, e, rfl, rfl⟩) (fun x' hp hw => It.str)
    (fun A s Q E e hq => wpAny_pyIter_striter_ascii (x := y) (t := t) (i := 0) ⟨_, e, rfl, rfl⟩ hq) hcell hkind (fun x' L' k μ hk hkn => hel x' L' μ _ hk) fun g'' acc L' s' m w' l' r' hm => ?_
  have e : (List.range y.cps.size).map (fun k => f (y.cps.toList.getD k 0)) = y.cps.toList.map f := by
    apply List.ext_getElem (by simp)
    intro i h1 h2
    simp only [List.length_map, List.length_range] at h1
    simp [List.getD_eq_getElem?_getD, h1]
  rw [e] at r'
  have hLne : L' ≠ env.locals := (w'.own _ List.mem_cons_self).2.2.2.1
  obtain ⟨m2, hn2, hm2⟩ := w'.ns
  refine wpAny_assign_Name (wpAny_storeName_local hl hn2 (fun h' hn' hs' => ?_) (by rw [hk]; rfl))
  have w₂ := w'.store (k := s'.toks + 1) r' hm2 hn' hs'
  refine ⟨m, hm.sameBut hs' hLne, fun h2 hs2 => wpAny_pure (wpAny_pure ?_)⟩
  exact kk .next .next _ o g'' _ (w₂.dropL hs2) (l₁.trans l') rfl hP
end
end Fill66
end
noncomputable section
open PySem PySem.W PyProof.Rows
set_option maxRecDepth 100000
namespace Fill66

theorem no_column : typeLookup (.type "object") "column" = pure none := by rw [typeLookup_type, builtinLookup_eq_fast]; kernel_rfl
theorem no_way : typeLookup (.type "object") "way" = pure none := by rw [typeLookup_type, builtinLookup_eq_fast]; kernel_rfl
theorem no_leads : typeLookup (.type "object") "leads" = pure none := by rw [typeLookup_type, builtinLookup_eq_fast]; kernel_rfl
theorem no_tab : typeLookup (.type "object") "tab" = pure none := by rw [typeLookup_type, builtinLookup_eq_fast]; kernel_rfl

section
variable {x : Cx} {env : Env} {μ : Mu} {own : Own}

theorem fill_get {L : Addr} {g : G} {s : Shared} {c : Int} {v : Value} {Q : Value → Shared → Prop} {E : Value → Shared → Prop} (w : W x L g μ own s) (r : FillRep g c v) :
    (∀ nm, (nm = ("column" : Str) ∧ (∀ u, Q (.int c u) { s with toks := s.toks + 1 }) ∨ nm = ("way" : Str) ∧ (∀ u, Q (.str "left" u) { s with toks := s.toks + 1 }) ∨ nm = ("tab" : Str) ∧ (∀ u, Q (.int 8 u) { s with toks := s.toks + 1 }) ∨
      nm = ("leads" : Str) ∧ (∀ l u n, g l = some (LObj [.int 62 u] n) → Q (.ref l) { s with toks := s.toks + 1 })) → wpAny (model x.prog x.w) x.A (getAttr v nm true) Q E s) := by
  obtain ⟨a, da, la, C, oa, od, es, ep, t1, t2, t3, u, n, rfl, hne, ⟨nm', q, N, bs, sn, sub, ab, col, dd, k0, k1, k2, k3, k5, newId, oN, es', ep', c1, c2, c3, c4, c5, c6, c7, c8, c9⟩, h1, h1a, h1b, h1c, h2, h2a, h3, h4, h5, h6⟩ := r
  have I : s.heap.Inst a C (fillMap c la t1 t2 t3) := ⟨_, w.ext.gh _ _ h1, h1a, h1b, .inr ⟨da, h1c, hne, _, _, _, w.ext.gh _ _ h2, h2a, h3, h4, h5⟩⟩
  have hN : s.heap.Ns N (nsFind es') := ⟨_, _, _, w.ext.gh _ _ c2, c3, c4, fun _ => rfl⟩
  intro nm hq
  rcases hq with ⟨rfl, hq⟩ | ⟨rfl, hq⟩ | ⟨rfl, hq⟩ | ⟨rfl, hq⟩
  · exact load_attr (w.ext.gh _ _ c1) hN c5 c6 no_column I (by rfl) rfl (hq t1)
  · exact load_attr (w.ext.gh _ _ c1) hN c5 c7 no_way I (by rfl) rfl (hq t2)
  · exact load_attr (w.ext.gh _ _ c1) hN c5 c9 no_tab I (by rfl) rfl (hq t3)
  · exact load_attr (w.ext.gh _ _ c1) hN c5 c8 no_leads I (by rfl) rfl (hq la u n h6)

theorem Rep.fillI {g : G} {c : Int} {v : Value} (h : Rep g (.fill c) v) : FillRep g c v := by rw [Rep] at h; exact h

theorem EV.fill_column {nm : Str} {xp pos : Pos} {P : D → Own → Prop} (h : EV x env μ own (.Name nm xp) fun d o => ∃ c, d = .fill c ∧ P (.int c) o)
    (he : eval (.Attribute (.Name nm xp) "column" pos) env = (do
      let o ← eval (.Name nm xp) env
      standAt pos.atName
      let r ← holding [o] (getAttr o "column" true)
      letTemporaryGo (.Name nm xp) o r
      pure r) := by with_unfolding_all rfl) : EV x env μ own (.Attribute (.Name nm xp) "column" pos) P := fun fr g s Q E w kk =>
  Attribute_Name_ (h fr g s _ E w fun d v o g₁ s₁ w₁ l₁ r₁ p => by
    obtain ⟨c, rfl, hP⟩ := p
    exact fill_get w₁ r₁.fillI _ (.inl ⟨rfl, fun u => kk _ _ o g₁ _ (w₁.toks _) l₁ (Rep.int' u) hP⟩)) he
theorem EV.fill_way {nm : Str} {xp pos : Pos} {P : D → Own → Prop} (h : EV x env μ own (.Name nm xp) fun d o => ∃ c, d = .fill c ∧ P (.str "left") o)
    (he : eval (.Attribute (.Name nm xp) "way" pos) env = (do
      let o ← eval (.Name nm xp) env
      standAt pos.atName
      let r ← holding [o] (getAttr o "way" true)
      letTemporaryGo (.Name nm xp) o r
      pure r) := by with_unfolding_all rfl) : EV x env μ own (.Attribute (.Name nm xp) "way" pos) P := fun fr g s Q E w kk =>
  Attribute_Name_ (h fr g s _ E w fun d v o g₁ s₁ w₁ l₁ r₁ p => by
    obtain ⟨c, rfl, hP⟩ := p
    exact fill_get w₁ r₁.fillI _ (.inr (.inl ⟨rfl, fun u => kk _ _ o g₁ _ (w₁.toks _) l₁ (Rep.str' u) hP⟩))) he
theorem EV.fill_tab {nm : Str} {xp pos : Pos} {P : D → Own → Prop} (h : EV x env μ own (.Name nm xp) fun d o => ∃ c, d = .fill c ∧ P (.int 8) o)
    (he : eval (.Attribute (.Name nm xp) "tab" pos) env = (do
      let o ← eval (.Name nm xp) env
      standAt pos.atName
      let r ← holding [o] (getAttr o "tab" true)
      letTemporaryGo (.Name nm xp) o r
      pure r) := by with_unfolding_all rfl) : EV x env μ own (.Attribute (.Name nm xp) "tab" pos) P := fun fr g s Q E w kk =>
  Attribute_Name_ (h fr g s _ E w fun d v o g₁ s₁ w₁ l₁ r₁ p => by
    obtain ⟨c, rfl, hP⟩ := p
    exact fill_get w₁ r₁.fillI _ (.inr (.inr (.inl ⟨rfl, fun u => kk _ _ o g₁ _ (w₁.toks _) l₁ (Rep.int' u) hP⟩)))) he
theorem EV.fill_leads {nm : Str} {xp pos : Pos} {P : D → Own → Prop} (h : EV x env μ own (.Name nm xp) fun d o => ∃ c, d = .fill c ∧ P (.list (dI [62])) o)
    (he : eval (.Attribute (.Name nm xp) "leads" pos) env = (do
      let o ← eval (.Name nm xp) env
      standAt pos.atName
      let r ← holding [o] (getAttr o "leads" true)
      letTemporaryGo (.Name nm xp) o r
      pure r) := by with_unfolding_all rfl) : EV x env μ own (.Attribute (.Name nm xp) "leads" pos) P := fun fr g s Q E w kk =>
  Attribute_Name_ (h fr g s _ E w fun d v o g₁ s₁ w₁ l₁ r₁ p => by
    obtain ⟨c, rfl, hP⟩ := p
    refine fill_get w₁ r₁.fillI _ (.inr (.inr (.inr ⟨rfl, fun l u n hl => kk _ _ o g₁ _ (w₁.toks _) l₁ ?_ hP⟩)))
    rw [Rep]
    exact ⟨l, [.int 62 u], n, rfl, hl, RepL.cons (Rep.int' u) RepL.nil⟩) he
end
end Fill66
end
noncomputable section
open PySem PySem.W PyProof.Rows
set_option maxRecDepth 100000
namespace Fill66

/-- one value in a list's place of another -/
def SubL (a : Addr) (d : D) : List D → List D → Prop
  | [], [] => True
  | e :: es, f :: fs => (f = e ∨ (e = .mut a ∧ f = d)) ∧ SubL a d es fs
  | _, _ => False
theorem SubL.refl (a : Addr) (d : D) : ∀ ds, SubL a d ds ds
  | [] => trivial
  | _ :: ds => ⟨.inl rfl, SubL.refl a d ds⟩
theorem SubL.append {a : Addr} {d : D} : ∀ {ds es ds' es' : List D}, SubL a d ds ds' → SubL a d es es' → SubL a d (ds ++ es) (ds' ++ es')
  | [], _, [], _, _, h => h
  | _ :: _, _, _ :: _, _, h1, h2 => ⟨h1.1, SubL.append h1.2 h2⟩
  | [], _, _ :: _, _, h1, _ => h1.elim
  | _ :: _, _, [], _, h1, _ => h1.elim
theorem RepL.subst {g : G} {a : Addr} {d : D} (hd : Rep g d (.ref a)) : ∀ {ds ds' : List D} {vs : List Value}, RepL g ds vs → SubL a d ds ds' → RepL g ds' vs
  | [], [], _, r, _ => r
  | e :: es, f :: fs, vs, r, h => by
    rw [RepL] at r
    obtain ⟨v, us, rfl, h1, h2⟩ := r
    rcases h.1 with rfl | ⟨rfl, rfl⟩
    · exact RepL.cons h1 (RepL.subst hd h2 h.2)
    · obtain rfl := h1.mutI
      exact RepL.cons hd (RepL.subst hd h2 h.2)
  | [], _ :: _, _, _, h => h.elim
  | _ :: _, [], _, _, h => h.elim

section
variable {x : Cx} {env : Env} {μ : Mu} {own : Own}

/-- an own list within an own list is frozen -/
theorem EX.freezeCell {a₁ a₀ : Addr} {c ds ds' : List D} {μ' : Mu} {own' : Own} {st : List Stmt} {P : FlowD → Mu → Own → Prop} (hp : own.Perm ((a₁, .lst c) :: (a₀, .lst ds) :: own')) (hne : x.lent ≠ some a₁)
    (hs : SubL a₁ (.list c) ds ds') (hμ : MuFr a₁ (.list c) μ' μ) (h : EX x env μ' ((a₀, .lst ds') :: own') st P) : EX x env μ own st P := fun fr g s Q E w kk => by
  obtain ⟨g', w', l', r'⟩ := (w.ownPerm (own' := (a₁, .lst c) :: (((a₀, .lst ds) :: own') ++ fr)) ((hp.append_right fr).symm)).freeze hne
  have hns : ∃ m, s.heap.Ns env.locals m ∧ ∀ y d, μ'.get y = some d → ∃ v, m y = some v ∧ Rep g' d v := by
    obtain ⟨m, h1, h2⟩ := w'.ns
    refine ⟨m, h1, fun y d e => ?_⟩
    rcases hμ.get y d e with e1 | ⟨e1, rfl⟩
    · exact h2 y d e1
    · obtain ⟨v, hv, rv⟩ := h2 y _ e1
      obtain rfl := rv.mutI
      exact ⟨_, hv, r'⟩
  have w'' : W x env.locals g' μ' (((a₀, .lst ds') :: own') ++ fr) s := { w' with
    ns := hns
    own := fun p hp => by
      rcases List.mem_cons.mp hp with rfl | hp
      · obtain ⟨⟨vs, n, h1, h2⟩, b⟩ := w'.own (a₀, .lst ds) List.mem_cons_self
        exact ⟨⟨vs, n, h1, h2.subst r' hs⟩, b⟩
      · exact w'.own p (List.mem_cons_of_mem _ hp)
    nodup := w'.nodup }
  exact h fr g' s Q E w'' fun fd f μ'' o' g'' s'' w3 l3 r3 p => kk fd f μ'' o' g'' s'' w3 (l'.trans l3) r3 p
end
end Fill66
end
noncomputable section
open PySem PySem.W PyProof.Rows PySem.SeqAt PySem.Builtin PySem.Builtin.Str PySem.Spec
set_option maxRecDepth 100000
namespace Fill66

def dS (l : List Str) : List D := l.map .str

theorem RepL.strsI {g : G} : ∀ {texts : List Str} {vs : List Value}, RepL g (dS texts) vs → ∃ l : List (Str × Tok), vs = strValues l ∧ l.map (·.1) = texts
  | [], vs, h => by rw [dS, List.map_nil, RepL] at h; subst h; exact ⟨[], rfl, rfl⟩
  | y :: r, vs, h => by
    rw [dS, List.map_cons, RepL] at h
    obtain ⟨v, us, rfl, h1, h2⟩ := h
    obtain ⟨t, rfl⟩ := h1.strI
    obtain ⟨l, rfl, e⟩ := RepL.strsI h2
    exact ⟨(y, t) :: l, rfl, by simp [e]⟩
theorem RepL.ofStrs {g : G} : ∀ (l : List (Str × Tok)), RepL g (dS (l.map (·.1))) (strValues l)
  | [] => RepL.nil
  | p :: l => RepL.cons (Rep.str' p.2) (RepL.ofStrs l)

theorem reads_of_strs {h : Heap} {a : Addr} {l : List (Str × Tok)} (hl : h.IsList a (strValues l).toArray) : Reads h (.ref a) (.list ((l.map (·.1)).map PyData.str)) [a] :=
  let ⟨_, ho, hc, _, hd⟩ := hl
  .list ho hc hd (readsAll_strValues h l)
theorem canLayAll0_strs : ∀ ns : List Str, (∀ n ∈ ns, PyData.strOk n = true) → PyData.canLayAll0 (ns.map PyData.str) = true
  | [], _ => by simp [PyData.canLayAll0]
  | n :: r, h => by simp [PyData.canLayAll0, PyData.canLay0, canLayAll0_strs r fun m hm => h m (List.mem_cons_of_mem _ hm), h n List.mem_cons_self]
theorem depthAll_strs : ∀ ns : List Str, PyData.depthAll (ns.map PyData.str) ≤ 1
  | [] => by simp [PyData.depthAll]
  | n :: r => by
    have := depthAll_strs r
    simp only [List.map_cons, PyData.depthAll, PyData.depth]
    omega
theorem shaped_strs (ns : List Str) (hok : ∀ n ∈ ns, PyData.strOk n = true) : shaped (.list (ns.map PyData.str)) = true := by
  have := depthAll_strs ns
  simp only [shaped, PyData.canLay0, PyData.depth, canLayAll0_strs ns hok, Bool.true_and]
  exact decide_eq_true (by omega)
theorem noMix_strs (ns ms : List Str) : noMixAll (ns.map PyData.str) (ms.map PyData.str) = true :=
  noMixAll_of_all (P := fun d => ∃ n, d = .str n) (fun _ _ ⟨_, e⟩ ⟨_, e'⟩ => by rw [e, e', noMix]; all_goals nofun) _ _
    (fun _ h => (List.mem_map.mp h).imp fun _ q => q.2.symm) (fun _ h => (List.mem_map.mp h).imp fun _ q => q.2.symm)
theorem same_strs (ns : List Str) : ∀ ms : List Str, PySem.Spec.sameAll (ns.map PyData.str) (ms.map PyData.str) = decide (ns = ms) := by
  induction ns with
  | nil => intro ms; cases ms <;> simp [PySem.Spec.sameAll]
  | cons n r ih =>
    intro ms
    cases ms with
    | nil => simp [PySem.Spec.sameAll]
    | cons k q =>
      rw [List.map_cons, List.map_cons, PySem.Spec.sameAll, ih q]
      by_cases e : n = k <;> simp [PySem.Spec.same, e]

section
variable {x : Cx} {env : Env} {μ : Mu} {own : Own}

theorem OpOk.ne_strs {a b : List Str} {P : D → Prop} (ha : ∀ n ∈ a, PyData.strOk n = true) (hb : ∀ n ∈ b, PyData.strOk n = true) (h : P (.bool (!decide (a = b)))) : OpOk x (compareOp .NotEq) (.list (dS a)) (.list (dS b)) P := fun L g μ own s v₁ v₂ Q E w r₁ r₂ kk => by
  obtain ⟨l1, vs, n, rfl, h1, i1⟩ := r₁.listI
  obtain ⟨l2, us, n2, rfl, h2, i2⟩ := r₂.listI
  have hu := w.room.units
  obtain ⟨p1, rfl, rfl⟩ := i1.strsI
  obtain ⟨p2, rfl, rfl⟩ := i2.strsI
  refine ne_dataH_same (reads_of_strs (w.isL h1).isList) (reads_of_strs (w.isL h2).isList) (shaped_strs _ ha) (shaped_strs _ hb) (by have hc := cLine_is; simp only [hc] at hu ⊢; omega) (by simp only [noMix]; exact noMix_strs _ _) ?_
  simp only [PySem.Spec.same]
  rw [same_strs]
  exact kk _ _ g _ w (G.le.refl g) Rep.bool' h

theorem EV.join {o e : Expr} {apos pos : Pos} {P : D → Own → Prop}
    (h : EV x env μ own o fun d o₁ => ∃ y, d = .str y ∧ EV x env μ o₁ e fun d₂ o₂ => ∃ texts, d₂ = .list (dS texts) ∧ JoinOk y texts = true ∧ P (.str (Txt.join y texts)) o₂)
    (hb : attributeBase o "join" env (eval o env) = eval o env := by rfl) (hs : starEach [e] env = [(false, eval e env)] := by rfl) (hl : (apos.endLine == pos.line) = true := by rfl) : EV x env μ own (.Call (.Attribute o "join" apos) [e] [] pos) P := fun fr g s Q E w kk => by
  refine Call_method1 hb hs hl (h fr g s _ E w fun d v o₁ g₁ s₁ w₁ l₁ r₁ p => ?_)
  obtain ⟨y, rfl, h₂⟩ := p
  obtain ⟨t, rfl⟩ := r₁.strI
  refine SB.join (h₂ fr g₁ s₁ _ E w₁ fun d₂ v₂ o₂ g₂ s₂ w₂ l₂ r₂ p₂ => ?_)
  obtain ⟨texts, rfl, hok, hP⟩ := p₂
  obtain ⟨b, vs, n, rfl, hb2, r⟩ := r₂.listI
  obtain ⟨l, rfl, rfl⟩ := r.strsI
  exact ⟨b, l, rfl, (w₂.isL hb2).isList, _, rfl, hok, fun t' k => kk _ _ o₂ g₂ _ (w₂.toks k) (l₁.trans l₂) (Rep.str' t') hP⟩

theorem EV.lstripChars {o e : Expr} {apos pos : Pos} {P : D → Own → Prop}
    (h : EV x env μ own o fun d o₁ => ∃ y, d = .str y ∧ y.length ≤ sizeLine ∧ EV x env μ o₁ e fun d₂ o₂ => ∃ z, d₂ = .str z ∧ P (.str (Txt.lstripChars y z)) o₂)
    (hb : attributeBase o "lstrip" env (eval o env) = eval o env := by rfl) (hs : starEach [e] env = [(false, eval e env)] := by rfl) (hl : (apos.endLine == pos.line) = true := by rfl) : EV x env μ own (.Call (.Attribute o "lstrip" apos) [e] [] pos) P := fun fr g s Q E w kk => by
  refine Call_method1 hb hs hl (h fr g s _ E w fun d v o₁ g₁ s₁ w₁ l₁ r₁ p => ?_)
  obtain ⟨y, rfl, hsz, h₂⟩ := p
  obtain ⟨t, rfl⟩ := r₁.strI
  refine SB.lstripChars (h₂ fr g₁ s₁ _ E w₁ fun d₂ v₂ o₂ g₂ s₂ w₂ l₂ r₂ p₂ => ?_) hsz
  obtain ⟨z, rfl, hP⟩ := p₂
  obtain ⟨u, rfl⟩ := r₂.strI
  exact ⟨z, u, rfl, fun t' k => kk _ _ o₂ g₂ _ (w₂.toks k) (l₁.trans l₂) (Rep.str' t') hP⟩

theorem EV.strip {o : Expr} {apos pos : Pos} {P : D → Own → Prop}
    (h : EV x env μ own o fun d o₁ => ∃ y, d = .str y ∧ y.length ≤ sizeLine ∧ P (.str (Txt.strip y)) o₁)
    (hb : attributeBase o "strip" env (eval o env) = eval o env := by rfl) (hl : (apos.endLine == pos.line) = true := by rfl) : EV x env μ own (.Call (.Attribute o "strip" apos) [] [] pos) P := fun fr g s Q E w kk => by
  refine Call_method0 hb hl (h fr g s _ E w fun d v o₁ g₁ s₁ w₁ l₁ r₁ p => ?_)
  obtain ⟨y, rfl, hsz, hP⟩ := p
  obtain ⟨t, rfl⟩ := r₁.strI
  exact SB.strip (fun t' k => kk _ _ o₁ g₁ _ (w₁.toks k) l₁ (Rep.str' t') hP) hsz

/-- a new list of texts -/
theorem W.newStrs {L : Addr} {g : G} {s : Shared} (w : W x L g μ own s) (l : List (Str × Tok)) (k : Nat) : ∃ g', W x L g' μ own { s with heap := s.heap.push { cls := .type "list", data := .seq (strValues l).toArray }, toks := k } ∧ G.le g g' ∧ Rep g' (.list (dS (l.map (·.1)))) (.ref s.heap.objs.size) :=
  (w.toks k).newList (RepL.ofStrs l)

theorem split0_exact {prog : Program} {wd : World} {A : Around} {E : Value → Shared → Prop} {s : Shared} {y : Str} {t : Tok} {pos : Pos} {Q : Value → Shared → Prop} (hx : y.length < sizeLine)
    (h : ∀ l k, l.map (·.1) = Txt.words y → Q (.ref s.heap.objs.size) { s with heap := s.heap.push { cls := .type "list", data := .seq (strValues l).toArray }, toks := k }) : MethodOnS prog wd A E "split" (.str y t) pos [] Q s := by
  have hn : (spaceWords y (y.length + 1)).length ≤ sizeLine := by
    have := (StrLaws.sw_weight y).1
    have := StrLaws.len_le_wsum (spaceWords y (y.length + 1))
    omega
  refine ⟨"str", _, F.plainAttrs_str, F.slot_str_split, F.type_str_split, typeIs_str _ _ _, (fun _ e => nomatch e),
    method0_meets F.slot_str_split F.entry_str_split (typeIs_str _ _ _) (F.args_str_split_1 _) (meets_str_split_space y t (Nat.le_of_lt hx) hn) ?_⟩
  cases hw : spaceWords y (y.length + 1) == [(0, y.length)]
  · simp only [Bool.false_eq_true, if_false]
    rw [strsFrom_eq]
    exact h (numbered s.toks (PySem.wordsOf y)) _ ((numbered_texts _ _).trans (if_neg (ne_true_of_eq_false hw)).symm)
  · simp only [if_true]
    exact h [(y, t)] s.toks (if_pos hw).symm

theorem split1_exact {prog : Program} {wd : World} {A : Around} {E : Value → Shared → Prop} {s : Shared} {y : Str} {t : Tok} {pos : Pos} {Q : Value → Shared → Prop} {a : Sem Value} (hx : y.length + 2 ≤ sizeLine)
    (h : wpAny (model prog wd) A a (fun v s₁ => ∃ z u, v = .str z u ∧ (z.length == 0) = false ∧
      ∀ l k, l.map (·.1) = Txt.split y z → Q (.ref s₁.heap.objs.size) { s₁ with heap := s₁.heap.push { cls := .type "list", data := .seq (strValues l).toArray }, toks := k }) E s) : MethodOnS prog wd A E "split" (.str y t) pos [(false, a)] Q s := by
  refine ⟨"str", _, F.plainAttrs_str, F.slot_str_split, F.type_str_split, typeIs_str _ _ _, (fun _ e => nomatch e),
    method1_meets F.slot_str_split F.entry_str_split (wpAny_mono h (fun v s₁ h₁ => ?_) fun _ _ e => e)⟩
  obtain ⟨z, u, rfl, hz, hq⟩ := h₁
  refine ⟨typeIs_str _ _ _, F.args_str_split_2 _ _, ?_⟩
  have hle := split_le y z
  cases h1 : (decide (y.length < z.length) || decide (strKind y < strKind z))
  · cases hf : (occurrences y z 0 y.length (y.length + 1)).isEmpty
    · have e : Txt.split y z = partsBetween y (occurrences y z 0 y.length (y.length + 1)) z.length := (if_neg (ne_true_of_eq_false h1)).trans (if_neg (ne_true_of_eq_false hf))
      refine ⟨_, meets_str_split_sep y z t u h1 hz hf (by omega) (by rw [e] at hle; omega), ?_⟩
      show wants Q E _ { s₁ with toks := _, heap := s₁.heap.push { cls := .type "list", data := .seq (strsFrom s₁.toks (partsBetween y (occurrences y z 0 y.length (y.length + 1)) z.length)).toArray } }
      rw [strsFrom_eq]
      exact hq (numbered s₁.toks _) _ ((numbered_texts _ _).trans e.symm)
    · exact ⟨_, meets_str_split_not_found y z t u h1 hz hf, hq [(y, t)] s₁.toks ((if_neg (ne_true_of_eq_false h1)).trans (if_pos hf)).symm⟩
  · exact ⟨_, meets_str_split_cannot_occur y z t u h1, hq [(y, t)] s₁.toks (if_pos h1).symm⟩

theorem EV.split0 {o : Expr} {apos pos : Pos} {P : D → Own → Prop}
    (h : EV x env μ own o fun d o₁ => ∃ y, d = .str y ∧ y.length < sizeLine ∧ P (.list (dS (Txt.words y))) o₁)
    (hb : attributeBase o "split" env (eval o env) = eval o env := by rfl) (hl : (apos.endLine == pos.line) = true := by rfl) : EV x env μ own (.Call (.Attribute o "split" apos) [] [] pos) P := fun fr g s Q E w kk => by
  refine Call_method0 hb hl (h fr g s _ E w fun d v o₁ g₁ s₁ w₁ l₁ r₁ p => ?_)
  obtain ⟨y, rfl, hsz, hP⟩ := p
  obtain ⟨t, rfl⟩ := r₁.strI
  refine split0_exact hsz fun l k e => ?_
  obtain ⟨g', w', l', r'⟩ := w₁.newStrs l k
  rw [e] at r'
  exact kk _ _ o₁ g' _ w' (l₁.trans l') r' hP

theorem EV.split1 {o e : Expr} {apos pos : Pos} {P : D → Own → Prop}
    (h : EV x env μ own o fun d o₁ => ∃ y, d = .str y ∧ y.length + 2 ≤ sizeLine ∧ EV x env μ o₁ e fun d₂ o₂ => ∃ z, d₂ = .str z ∧ (z.length == 0) = false ∧ P (.list (dS (Txt.split y z))) o₂)
    (hb : attributeBase o "split" env (eval o env) = eval o env := by rfl) (hs : starEach [e] env = [(false, eval e env)] := by rfl) (hl : (apos.endLine == pos.line) = true := by rfl) : EV x env μ own (.Call (.Attribute o "split" apos) [e] [] pos) P := fun fr g s Q E w kk => by
  refine Call_method1 hb hs hl (h fr g s _ E w fun d v o₁ g₁ s₁ w₁ l₁ r₁ p => ?_)
  obtain ⟨y, rfl, hsz, h₂⟩ := p
  obtain ⟨t, rfl⟩ := r₁.strI
  refine split1_exact hsz (h₂ fr g₁ s₁ _ E w₁ fun d₂ v₂ o₂ g₂ s₂ w₂ l₂ r₂ p₂ => ?_)
  obtain ⟨z, rfl, hz, hP⟩ := p₂
  obtain ⟨u, rfl⟩ := r₂.strI
  refine ⟨z, u, rfl, hz, fun l k e => ?_⟩
  obtain ⟨g', w', l', r'⟩ := w₂.newStrs l k
  rw [e] at r'
  exact kk _ _ o₂ g' _ w' (l₁.trans (l₂.trans l')) r' hP

/-- a slice of a text -/
theorem EV.strSlice {value : Expr} {lower upper : Option Expr} {p pos : Pos} {P : D → Own → Prop}
    (h : EV x env μ own value fun d o₁ => ∃ y, d = .str y ∧ y.length ≤ sizeLine ∧ PT x env μ o₁ lower fun lo o₂ => PT x env μ o₂ upper fun hi o₃ => P (.str (Txt.slice y (partZ lo) (partZ hi))) o₃) : EV x env μ own (.Subscript value (.Slice lower upper none p) pos) P := fun fr g s Q E w kk => by
  refine Subscript_ (h fr g s _ E w fun d v o₁ g₁ s₁ w₁ l₁ r₁ h₁ => ?_)
  obtain ⟨y, rfl, hsz, h₁⟩ := h₁
  obtain ⟨t, rfl⟩ := r₁.strI
  refine wpAny_Slice (h₁ fr g₁ s₁ _ E w₁ fun dl vl lo o₂ g₂ s₂ w₂ l₂ rl pl h₂ => h₂ fr g₂ s₂ _ E w₂ fun du vu hi o₃ g₃ s₃ w₃ l₃ ru pu h₃ => wpAny_pure ?_)
  have hk : KeptH fun h' => W x env.locals g₃ μ (o₃ ++ fr) { s₃ with heap := h' } := fun _ ob a => a.push ob
  have fin : ∀ h' t' k, W x env.locals g₃ μ (o₃ ++ fr) { s₃ with heap := h' } → Q (.str (Txt.slice y (partZ lo) (partZ hi)) t') { s₃ with heap := h', toks := k } := fun h' t' k a =>
    kk _ _ o₃ g₃ _ (a.toks k) (l₁.trans (l₂.trans l₃)) (Rep.str' t') h₃
  have item : ItemOn (model x.prog x.w) x.A E (.str y t) (.ref s₃.heap.objs.size) Q { s₃ with heap := s₃.heap.push { cls := .type "slice", data := .fields #[vl, vu, .none] } } := by
    cases pl with
    | none =>
      obtain rfl := rl.noneI
      cases pu with
      | none => obtain rfl := ru.noneI; exact SBH.sliceItem_nn hk w₃ fin hsz
      | int n => obtain ⟨u, rfl⟩ := ru.intI; exact SBH.sliceItem_ns hk w₃ fin hsz
    | int m =>
      obtain ⟨u', rfl⟩ := rl.intI
      cases pu with
      | none => obtain rfl := ru.noneI; exact SBH.sliceItem_sn hk w₃ fin hsz
      | int n => obtain ⟨u, rfl⟩ := ru.intI; exact SBH.sliceItem_ss hk w₃ fin hsz
  obtain ⟨T, id, hl, hT, hg⟩ := item
  exact tail_any hT hl hg rfl
end
end Fill66
end
noncomputable section
open PySem PySem.W PyProof.Rows PySem.SeqAt PySem.Builtin PySem.Builtin.Str PySem.Spec
set_option maxRecDepth 100000
namespace Fill66

section
variable {x : Cx} {env : Env} {μ : Mu} {own : Own}

def ECell (e it : Addr) (k : Nat) : Cell := .obj fun o => ∃ old, ∀ h : Heap, h.get? e = some o → IsEnum h e it (k : Int) old

/-- behind own cells' step a new object is frozen -/
theorem W.stepFreeze {L : Addr} {g : G} {s s' : Shared} {cs cs' : Own} {o : Obj} (w : W x L g μ (cs ++ own) s) (ha : (cs'.map (·.1)).Sublist (cs.map (·.1))) (hk : ∀ a o, (∀ p ∈ cs, a ≠ p.1) → s.heap.get? a = some o → s'.heap.get? a = some o)
    (hge : s'.gens = s.gens) (hos : s'.os = s.os) (hc : ∀ p ∈ cs', CellIs g s'.heap p.1 p.2) (ho : s'.heap.get? s.heap.objs.size = some o) : W x L (g.add s.heap.objs.size o) μ (cs' ++ own) s' ∧ G.le g (g.add s.heap.objs.size o) := by
  have w' := W.step (cs := cs) (cs' := cs') w ha hk hge hos hc
  have hga := w.gsize (Nat.le_refl _)
  refine ⟨w'.freezeG ho w.ext.size (Nat.ne_of_gt w.Llt) (fun p hp => ?_) hga, G.add_le _ hga⟩
  rcases List.mem_append.mp hp with hp | hp
  · obtain ⟨q, hq, e⟩ := List.mem_map.mp (ha.subset (List.mem_map.mpr ⟨p, hp, rfl⟩))
    rw [← e]
    exact Nat.ne_of_lt (w.ownlt (List.mem_append_left _ hq))
  · exact Nat.ne_of_lt (w.ownlt (List.mem_append_right _ hp))

theorem It.enum {ts : List Expr} {c : Nat} {tp : Pos} {e it l : Addr} {gi : G} {ds : List D} {vs : List Value} {n : Nat} {d₀ : D} (hne : e ≠ it) (hl : gi l = some (LObj vs n)) (r : RepL gi ds vs) :
    It x gi (.Tuple ts c tp) (.ref e) ds.length (fun k => .tup [.int k, ds.getD k d₀]) (fun k => [(e, ECell e it k), (it, LIter l k)]) where
  next := fun k hk L g μ own s Q E w le kk => by
    obtain ⟨⟨oe, hoe, old, he⟩, _⟩ := w.own (e, ECell e it k) List.mem_cons_self
    obtain ⟨⟨o, ho, hc, hd⟩, _⟩ := w.own (it, LIter l k) (List.mem_cons_of_mem _ List.mem_cons_self)
    have hd' : ds[k]? = some (ds.getD k d₀) := by rw [List.getD_eq_getElem?_getD, List.getElem?_eq_getElem hk]; rfl
    obtain ⟨v, hv, rv⟩ := r.get hd'
    refine wpAny_pyNext_enum_item (l := l) (i := k) (x := v) (he _ hoe) ⟨o, ho, hc, hd⟩ (w.isL (le _ _ hl)).isList (by simpa using hv) hne fun h' heo hit ht hz hkp => kk _ _ fun Q' E' kk' => ?_
    refine wpAny_letOwnedTupleGo_enum heo fun h'' he'' hs => ?_
    have hes : e < s.heap.objs.size := Heap.lt_size hoe
    have ht' : h''.get? s.heap.objs.size = some (TObj [.int k s.toks, v] 0) := (hs.2 _ (Nat.ne_of_gt hes)).trans ht
    have st := W.stepFreeze (x := x) (own := own) (μ := μ) (s' := { s with heap := h'', toks := s.toks + 1 }) (cs := [(e, ECell e it k), (it, LIter l k)]) (cs' := [(e, ECell e it (k + 1)), (it, LIter l (k + 1))]) w (List.Sublist.refl _)
      (fun a o' ha ea => (hs.2 a (ha _ List.mem_cons_self)).trans (hkp a o' (ha _ List.mem_cons_self) (ha _ (List.mem_cons_of_mem _ List.mem_cons_self)) ea)) rfl rfl (fun p hp => by
        rcases List.mem_cons.mp hp with rfl | hp
        · refine ⟨_, he'', v, fun h eh => ?_⟩
          rw [show ((k + 1 : Nat) : Int) = (k : Int) + 1 by omega]
          exact eh
        · obtain rfl : p = (it, LIter l (k + 1)) := by simpa using hp
          obtain ⟨o', h1, h2, h3⟩ := hit
          exact ⟨o', (hs.2 _ (Ne.symm hne)).trans h1, h2, h3⟩) ht'
    refine kk' _ _ st.1 st.2 ?_
    rw [Rep]
    exact ⟨_, _, 0, rfl, G.add_self .., RepL.cons (Rep.int' _) (RepL.cons ((rv.mono le).mono st.2) RepL.nil)⟩
  stop := fun L g μ own s Q E w le kk => by
    obtain ⟨⟨oe, hoe, old, he⟩, _⟩ := w.own (e, ECell e it ds.length) List.mem_cons_self
    obtain ⟨⟨o, ho, hc, hd⟩, _⟩ := w.own (it, LIter l ds.length) (List.mem_cons_of_mem _ List.mem_cons_self)
    refine wpAny_pyNext_enum_end (l := l) (i := ds.length) w.room.handled (he _ hoe) ⟨o, ho, hc, hd⟩ (w.isL (le _ _ hl)).isList (by simp [r.length]) fun h' hs => kk _
      (W.step (cs := [(e, ECell e it ds.length), (it, LIter l ds.length)]) (cs' := []) w (List.nil_sublist _) (fun a o ha ea => hs a o (ha _ (List.mem_cons_of_mem _ List.mem_cons_self)) ea) rfl rfl nofun)

/-- enumerate(e), e a list -/
theorem IT.enum {ts : List Expr} {c : Nat} {tp : Pos} {e : Expr} {pos pos' : Pos} {P : Nat → (Nat → D) → Own → Prop} (h : EV x env μ own e fun d o => ∃ ds, d = .list ds ∧ P ds.length (fun k => .tup [.int k, ds.getD k .none]) o)
    (hg : env.globals = mainGlobals := by rfl) (hb : env.builtins = builtinsNs := by rfl) (hk : env.scope.kind = .function := by rfl) (hl : env.kindOf "enumerate" = some .globalImplicit := by rfl)
    (he : eval (.Call (.Name "enumerate" pos) [e] [] pos') env = (do callWith pos' (← eval (.Name "enumerate" pos) env) [] (backTo pos' (starEach [e] env)) (backToKw pos' (keywordEach [] env))) := by rfl)
    (hs : starEach [e] env = (false, eval e env) :: starEach [] env := by rfl) : IT x env μ own (.Tuple ts c tp) (.Call (.Name "enumerate" pos) [e] [] pos') P := fun fr g s Q E w kk => by
  refine PyProof.Rows.Call_ ?_ he
  refine (EV.builtin (P := fun d o => d = .raw (.type "enumerate") ∧ o = own) (by decide) (by decide) ⟨rfl, rfl⟩ hg hb hk hl (by decide) (by decide)) fr g s _ E w fun d v o g₁ s₁ w₁ l₁ r₁ h₁ => ?_
  obtain ⟨rfl, rfl⟩ := h₁
  obtain rfl := r₁.rawI
  refine PyProof.Rows.callWith_type1 ?_ hs rfl
  refine AR.cons (P := fun ds o' => ∃ es, ds = [.list es] ∧ P es.length (fun k => .tup [.int k, es.getD k .none]) o') (h.mono fun d o' p => ?_) hs fr pos' g₁ s₁ _ E w₁ fun ds vs o' g₂ s₂ w₂ l₂ r₂ p => ?_
  · obtain ⟨es, rfl, hp⟩ := p
    exact AR.nil ⟨es, rfl, hp⟩
  obtain ⟨es, rfl, hp⟩ := p
  obtain ⟨v, rfl, rv⟩ := r₂.one
  obtain ⟨a, us, m, rfl, ha, ru⟩ := rv.listI
  refine call_enumerate_list (w₂.isL ha).isList fun h' e1 e2 e3 e4 => ?_
  have w₃ : W x env.locals g₂ μ (o' ++ fr) { s₂ with heap := h' } := w₂.grow e4 (by show s₂.heap.objs.size ≤ h'.objs.size; rw [e3]; omega) rfl rfl
  obtain ⟨oi, i1, i2, i3⟩ := e2
  have w₄ := w₃.adopt (a := s₂.heap.objs.size) (p := fun o => o.cls = .type "list_iterator" ∧ o.data = .fields #[.ref a, .int (0 : Nat) 0]) ⟨oi, i1, i2, i3⟩ w₂.ext.size (Nat.ne_of_gt w₂.Llt) (w₂.gsize (Nat.le_refl _)) (fun q hq => Nat.ne_of_lt (w₂.ownlt hq))
  have w₅ := w₄.adopt (a := s₂.heap.objs.size + 1) (p := fun o => ∃ old, ∀ h : Heap, h.get? (s₂.heap.objs.size + 1) = some o → IsEnum h (s₂.heap.objs.size + 1) s₂.heap.objs.size ((0 : Nat) : Int) old) ⟨_, e1, .none, fun h eh => eh⟩ (Nat.le_succ_of_le w₂.ext.size) (Nat.ne_of_gt (Nat.lt_succ_of_lt w₂.Llt)) (w₂.gsize (Nat.le_succ _)) (fun q hq => by
    rcases List.mem_cons.mp hq with rfl | hq
    · exact Nat.ne_of_lt (Nat.lt_succ_self _)
    · exact Nat.ne_of_lt (Nat.lt_succ_of_lt (w₂.ownlt hq)))
  refine wpAny_pyIter_enum e1 (kk _ es.length _ _ o' g₂ _ w₅ (l₁.trans l₂) (It.enum (d₀ := .none) (Nat.ne_of_gt (Nat.lt_succ_self _)) ha ru) hp)
end
end Fill66
end
noncomputable section
open PySem PySem.W PyProof.Rows PySem.SeqAt PySem.Builtin PySem.Builtin.Str PySem.Spec
set_option maxRecDepth 100000
namespace Fill66

section
variable {x : Cx} {env : Env} {μ : Mu} {own : Own}

/-- an own thing of the heap, as a property of the heap -/
def HCell (a : Addr) (p : Heap → Prop) : Cell := .obj fun o => ∀ h : Heap, h.get? a = some o → p h

def zipCells (z TI TO i1 i2 l1 l2 : Addr) (k : Nat) : Own :=
  [(z, HCell z fun h => IsZip h z TI TO .none), (TI, HCell TI fun h => IsPair h TI (.ref i1) (.ref i2)), (TO, HCell TO fun h => ∃ a b, IsPair h TO a b), (i1, LIter l1 k), (i2, LIter l2 k)]

theorem It.zip {ts : List Expr} {c : Nat} {tp : Pos} {z TI TO i1 i2 l1 l2 : Addr} {gi : G} {ds es : List D} {vs us : List Value} {n m : Nat} {d₀ : D} (hl1 : gi l1 = some (LObj vs n)) (r1 : RepL gi ds vs) (hl2 : gi l2 = some (LObj us m)) (r2 : RepL gi es us) (hlen : ds.length = es.length) :
    It x gi (.Tuple ts c tp) (.ref z) ds.length (fun k => .tup [ds.getD k d₀, es.getD k d₀]) (fun k => zipCells z TI TO i1 i2 l1 l2 k) := by
  have apart : ∀ {L : Addr} {g : G} {μ : Mu} {own : Own} {s : Shared} {k : Nat}, W x L g μ (zipCells z TI TO i1 i2 l1 l2 k ++ own) s → G.le gi g → ZipApart z TI TO i1 i2 l1 l2 := fun {L g μ own s k} w le => by
    have nd := w.nodup
    simp only [zipCells, List.map_append, List.map_cons, List.map_nil, List.cons_append, List.nil_append, List.nodup_cons, List.mem_cons, not_or] at nd
    have out : ∀ {a : Addr} {o : Obj}, gi a = some o → ∀ p ∈ zipCells z TI TO i1 i2 l1 l2 k, a ≠ p.1 := fun e p hp ea => by
      have := (w.own p (List.mem_append_left _ hp)).2.2.2.2
      rw [← ea, le _ _ e] at this; cases this
    obtain ⟨⟨a1, a2, a3, a4, _⟩, ⟨b1, b2, b3, _⟩, ⟨c1, c2, _⟩, ⟨d1, _⟩, _⟩ := nd
    refine ⟨Ne.symm a1, Ne.symm a2, Ne.symm a3, Ne.symm a4, b1, b2, b3, c1, c2, d1, out hl1 (z, _) (List.mem_of_getElem? (i := 0) rfl), ?_, ?_, ?_, ?_, ?_, ?_, ?_⟩
    · exact out hl1 (TO, _) (List.mem_of_getElem? (i := 2) rfl)
    · exact out hl1 (i1, _) (List.mem_of_getElem? (i := 3) rfl)
    · exact out hl1 (i2, _) (List.mem_of_getElem? (i := 4) rfl)
    · exact out hl2 (z, _) (List.mem_of_getElem? (i := 0) rfl)
    · exact out hl2 (TO, _) (List.mem_of_getElem? (i := 2) rfl)
    · exact out hl2 (i1, _) (List.mem_of_getElem? (i := 3) rfl)
    · exact out hl2 (i2, _) (List.mem_of_getElem? (i := 4) rfl)
  have parts : ∀ {L : Addr} {g : G} {μ : Mu} {own : Own} {s : Shared} {k : Nat}, W x L g μ (zipCells z TI TO i1 i2 l1 l2 k ++ own) s →
      IsZip s.heap z TI TO .none ∧ IsPair s.heap TI (.ref i1) (.ref i2) ∧ (∃ a b, IsPair s.heap TO a b) ∧ s.heap.IsListIter i1 l1 k ∧ s.heap.IsListIter i2 l2 k := fun {L g μ own s k} w => by
    obtain ⟨⟨o1, h1, p1⟩, _⟩ := w.own (z, HCell z fun h => IsZip h z TI TO .none) (List.mem_of_getElem? (i := 0) rfl)
    obtain ⟨⟨o2, h2, p2⟩, _⟩ := w.own (TI, HCell TI fun h => IsPair h TI (.ref i1) (.ref i2)) (List.mem_of_getElem? (i := 1) rfl)
    obtain ⟨⟨o3, h3, p3⟩, _⟩ := w.own (TO, HCell TO fun h => ∃ a b, IsPair h TO a b) (List.mem_of_getElem? (i := 2) rfl)
    obtain ⟨⟨o4, h4, c4, d4⟩, _⟩ := w.own (i1, LIter l1 k) (List.mem_of_getElem? (i := 3) rfl)
    obtain ⟨⟨o5, h5, c5, d5⟩, _⟩ := w.own (i2, LIter l2 k) (List.mem_of_getElem? (i := 4) rfl)
    exact ⟨p1 _ h1, p2 _ h2, p3 _ h3, ⟨o4, h4, c4, d4⟩, ⟨o5, h5, c5, d5⟩⟩
  refine ⟨fun k hk L g μ own s Q E w le kk => ?_, fun L g μ own s Q E w le kk => ?_⟩
  · have D := apart w le
    obtain ⟨hz, hTI, ⟨a, b, hTO⟩, h1, h2⟩ := parts w
    have hd1 : ds[k]? = some (ds.getD k d₀) := by rw [List.getD_eq_getElem?_getD, List.getElem?_eq_getElem hk]; rfl
    have hd2 : es[k]? = some (es.getD k d₀) := by rw [List.getD_eq_getElem?_getD, List.getElem?_eq_getElem (hlen ▸ hk)]; rfl
    obtain ⟨v1, hv1, rv1⟩ := r1.get hd1
    obtain ⟨v2, hv2, rv2⟩ := r2.get hd2
    refine wpAny_pyNext_zip_item D hz hTI hTO h1 h2 (w.isL (le _ _ hl1)).isList (w.isL (le _ _ hl2)).isList (x := v1) (y := v2) (by simpa using hv1) (by simpa using hv2) fun h' a1 a2 a3 a4 a5 a6 hkp => kk _ _ fun Q' E' kk' => ?_
    refine wpAny_letOwnedTupleGo_zip a1 fun h'' hz'' hs => ?_
    have hzs : z < s.heap.objs.size := Heap.lt_size hz
    have ht' : h''.get? s.heap.objs.size = some (TObj [v1, v2] 0) := (hs.2 _ (Nat.ne_of_gt hzs)).trans a5
    have hTI' : h''.get? TI = _ := (hs.2 _ D.TIz).trans (hkp _ _ D.TIz D.TITO D.TIi1 D.TIi2 hTI)
    have hTO' : h''.get? TO = _ := (hs.2 _ D.TOz).trans a2
    obtain ⟨o4, e4, c4, d4⟩ := a3
    obtain ⟨o5, e5, c5, d5⟩ := a4
    have st := W.stepFreeze (x := x) (own := own) (μ := μ) (s' := { s with heap := h'' }) (cs := zipCells z TI TO i1 i2 l1 l2 k) (cs' := zipCells z TI TO i1 i2 l1 l2 (k + 1)) w (List.Sublist.refl _)
      (fun c o' ha ea => (hs.2 c (ha (z, _) (List.mem_of_getElem? (i := 0) rfl))).trans (hkp c o' (ha (z, _) (List.mem_of_getElem? (i := 0) rfl)) (ha (TO, _) (List.mem_of_getElem? (i := 2) rfl))
        (ha (i1, _) (List.mem_of_getElem? (i := 3) rfl)) (ha (i2, _) (List.mem_of_getElem? (i := 4) rfl)) ea)) rfl rfl (fun p hp => by
        simp only [zipCells, List.mem_cons, List.not_mem_nil, or_false] at hp
        rcases hp with rfl | rfl | rfl | rfl | rfl
        · exact ⟨_, hz'', fun h eh => eh⟩
        · exact ⟨_, hTI', fun h eh => eh⟩
        · exact ⟨_, hTO', fun h eh => ⟨_, _, eh⟩⟩
        · exact ⟨o4, (hs.2 _ D.i1z).trans e4, c4, d4⟩
        · exact ⟨o5, (hs.2 _ D.i2z).trans e5, c5, d5⟩) ht'
    refine kk' _ _ st.1 st.2 ?_
    rw [Rep]
    exact ⟨_, _, 0, rfl, G.add_self .., RepL.cons ((rv1.mono le).mono st.2) (RepL.cons ((rv2.mono le).mono st.2) RepL.nil)⟩
  · have D := apart w le
    obtain ⟨hz, hTI, ⟨a, b, hTO⟩, h1, h2⟩ := parts w
    refine wpAny_pyNext_zip_end w.room.handled D hz hTI hTO h1 h2 (w.isL (le _ _ hl1)).isList (w.isL (le _ _ hl2)).isList (.inl (by simp [r1.length])) fun h' hkp => kk _
      (W.step (cs := zipCells z TI TO i1 i2 l1 l2 ds.length) (cs' := []) w (List.nil_sublist _) (fun c o' ha ea => hkp c o' (ha (z, _) (List.mem_of_getElem? (i := 0) rfl)) (ha (TO, _) (List.mem_of_getElem? (i := 2) rfl))
        (ha (i1, _) (List.mem_of_getElem? (i := 3) rfl)) (ha (i2, _) (List.mem_of_getElem? (i := 4) rfl)) ea) rfl rfl nofun)

/-- zip(e, f), lists of one length -/
theorem IT.zip {ts : List Expr} {c : Nat} {tp : Pos} {e f : Expr} {pos pos' : Pos} {P : Nat → (Nat → D) → Own → Prop} (h : EV x env μ own e fun d o => EV x env μ o f fun d' o' => ∃ ds es, d = .list ds ∧ d' = .list es ∧ ds.length = es.length ∧ P ds.length (fun k => .tup [ds.getD k .none, es.getD k .none]) o')
    (hg : env.globals = mainGlobals := by rfl) (hb : env.builtins = builtinsNs := by rfl) (hk : env.scope.kind = .function := by rfl) (hl : env.kindOf "zip" = some .globalImplicit := by rfl)
    (he : eval (.Call (.Name "zip" pos) [e, f] [] pos') env = (do callWith pos' (← eval (.Name "zip" pos) env) [] (backTo pos' (starEach [e, f] env)) (backToKw pos' (keywordEach [] env))) := by rfl)
    (hs : starEach [e, f] env = (false, eval e env) :: starEach [f] env := by rfl) (hs' : starEach [f] env = (false, eval f env) :: starEach [] env := by rfl) (hplain : (backTo pos' (starEach [f] env)).any (·.1) = false := by rfl) : IT x env μ own (.Tuple ts c tp) (.Call (.Name "zip" pos) [e, f] [] pos') P := fun fr g s Q E w kk => by
  refine PyProof.Rows.Call_ ?_ he
  refine (EV.builtin (P := fun d o => d = .raw (.type "zip") ∧ o = own) (by decide) (by decide) ⟨rfl, rfl⟩ hg hb hk hl (by decide) (by decide)) fr g s _ E w fun d v o g₁ s₁ w₁ l₁ r₁ h₁ => ?_
  obtain ⟨rfl, rfl⟩ := h₁
  obtain rfl := r₁.rawI
  refine PyProof.Rows.callWith_type1 ?_ hs hplain
  refine AR.cons (P := fun ds o' => ∃ as bs, ds = [.list as, .list bs] ∧ as.length = bs.length ∧ P as.length (fun k => .tup [as.getD k .none, bs.getD k .none]) o') (h.mono fun d o' p => AR.cons (p.mono fun d' o'' q => ?_) hs') hs fr pos' g₁ s₁ _ E w₁ fun ds vs o' g₂ s₂ w₂ l₂ r₂ p => ?_
  · obtain ⟨as, bs, rfl, rfl, hlen, hp⟩ := q
    exact AR.nil ⟨as, bs, rfl, hlen, hp⟩
  obtain ⟨as, bs, rfl, hlen, hp⟩ := p
  obtain ⟨v, u, rfl, rv, ru⟩ := r₂.two
  obtain ⟨a, us, m, rfl, ha, ra⟩ := rv.listI
  obtain ⟨b, ws, m2, rfl, hb', rb⟩ := ru.listI
  refine call_zip_2 (w₂.isL ha).isList (w₂.isL hb').isList fun h' e1 e2 e3 e4 e5 e6 e7 => ?_
  have w₃ : W x env.locals g₂ μ (o' ++ fr) { s₂ with heap := h' } := w₂.grow e7 (by show s₂.heap.objs.size ≤ h'.objs.size; rw [e6]; omega) rfl rfl
  have hsz : x.s₀.heap.objs.size ≤ s₂.heap.objs.size := w₂.ext.size
  have hLl := w₂.Llt
  obtain ⟨o4, i1, i2, i3⟩ := e4
  obtain ⟨o5, j1, j2, j3⟩ := e5
  have lo : ∀ q ∈ o' ++ fr, q.1 < s₂.heap.objs.size := fun q hq => w₂.ownlt hq
  have w₄ := w₃.adopt (a := s₂.heap.objs.size + 1) (p := fun o => o.cls = .type "list_iterator" ∧ o.data = .fields #[.ref b, .int (0 : Nat) 0]) ⟨o5, j1, j2, j3⟩ (Nat.le_trans hsz (by omega)) (Nat.ne_of_gt (Nat.lt_of_lt_of_le hLl (by omega))) (w₂.gsize (by omega)) (fun q hq => Nat.ne_of_lt (Nat.lt_of_lt_of_le (lo q hq) (by omega)))
  have w₅ := w₄.adopt (a := s₂.heap.objs.size) (p := fun o => o.cls = .type "list_iterator" ∧ o.data = .fields #[.ref a, .int (0 : Nat) 0]) ⟨o4, i1, i2, i3⟩ (Nat.le_trans hsz (by omega)) (Nat.ne_of_gt (Nat.lt_of_lt_of_le hLl (by omega))) (w₂.gsize (by omega)) (fun q hq => by
    rcases List.mem_cons.mp hq with rfl | hq
    · show s₂.heap.objs.size + 1 ≠ _; omega
    · exact Nat.ne_of_lt (Nat.lt_of_lt_of_le (lo q hq) (by omega)))
  have w₆ := w₅.adopt (a := s₂.heap.objs.size + 3) (p := fun o => ∀ h : Heap, h.get? (s₂.heap.objs.size + 3) = some o → ∃ a b, IsPair h (s₂.heap.objs.size + 3) a b) ⟨_, e3, fun h eh => ⟨_, _, eh⟩⟩ (Nat.le_trans hsz (by omega)) (Nat.ne_of_gt (Nat.lt_of_lt_of_le hLl (by omega))) (w₂.gsize (by omega)) (fun q hq => by
    rcases List.mem_cons.mp hq with rfl | hq
    · show s₂.heap.objs.size ≠ _; omega
    rcases List.mem_cons.mp hq with rfl | hq
    · show s₂.heap.objs.size + 1 ≠ _; omega
    · exact Nat.ne_of_lt (Nat.lt_of_lt_of_le (lo q hq) (by omega)))
  have w₇ := w₆.adopt (a := s₂.heap.objs.size + 2) (p := fun o => ∀ h : Heap, h.get? (s₂.heap.objs.size + 2) = some o → IsPair h (s₂.heap.objs.size + 2) (.ref s₂.heap.objs.size) (.ref (s₂.heap.objs.size + 1))) ⟨_, e2, fun h eh => eh⟩ (Nat.le_trans hsz (by omega)) (Nat.ne_of_gt (Nat.lt_of_lt_of_le hLl (by omega))) (w₂.gsize (by omega)) (fun q hq => by
    rcases List.mem_cons.mp hq with rfl | hq
    · show s₂.heap.objs.size + 3 ≠ _; omega
    rcases List.mem_cons.mp hq with rfl | hq
    · show s₂.heap.objs.size ≠ _; omega
    rcases List.mem_cons.mp hq with rfl | hq
    · show s₂.heap.objs.size + 1 ≠ _; omega
    · exact Nat.ne_of_lt (Nat.lt_of_lt_of_le (lo q hq) (by omega)))
  have w₈ := w₇.adopt (a := s₂.heap.objs.size + 4) (p := fun o => ∀ h : Heap, h.get? (s₂.heap.objs.size + 4) = some o → IsZip h (s₂.heap.objs.size + 4) (s₂.heap.objs.size + 2) (s₂.heap.objs.size + 3) .none) ⟨_, e1, fun h eh => eh⟩ (Nat.le_trans hsz (by omega)) (Nat.ne_of_gt (Nat.lt_of_lt_of_le hLl (by omega))) (w₂.gsize (by omega)) (fun q hq => by
    rcases List.mem_cons.mp hq with rfl | hq
    · show s₂.heap.objs.size + 2 ≠ _; omega
    rcases List.mem_cons.mp hq with rfl | hq
    · show s₂.heap.objs.size + 3 ≠ _; omega
    rcases List.mem_cons.mp hq with rfl | hq
    · show s₂.heap.objs.size ≠ _; omega
    rcases List.mem_cons.mp hq with rfl | hq
    · show s₂.heap.objs.size + 1 ≠ _; omega
    · exact Nat.ne_of_lt (Nat.lt_of_lt_of_le (lo q hq) (by omega)))
  exact wpAny_pyIter_zip e1 (kk _ as.length _ _ o' g₂ _ w₈ (l₁.trans l₂) (It.zip (d₀ := .none) (TI := s₂.heap.objs.size + 2) (TO := s₂.heap.objs.size + 3) (i1 := s₂.heap.objs.size) (i2 := s₂.heap.objs.size + 1) ha ra hb' rb hlen) hp)
end
end Fill66
end
noncomputable section
open PySem PySem.W PyProof.Rows PySem.SeqAt PySem.Builtin PySem.Builtin.Str PySem.Spec
set_option maxRecDepth 100000
namespace Fill66

/-- the class's __init__ -/
def ir : DefRec := match PySem.Challenge.pw_on0066_01.main.body[28]? with
  | some (Stmt.ClassDef _ _ _ body _ _ _ _ _ _ _) => match body with
    | [Stmt.FunctionDef name a b _ _ _ sc _ _ pos] => ⟨name, a, b, sc, pos⟩
    | _ => ⟨"", { posonlyargs := [], args := [], vararg := none, kwonlyargs := [], kw_defaults := [], kwarg := none, defaults := [] }, [], default, default⟩
  | _ => ⟨"", { posonlyargs := [], args := [], vararg := none, kwonlyargs := [], kw_defaults := [], kwarg := none, defaults := [] }, [], default, default⟩

abbrev fillNames : List Str := ["__getattribute__", "__setattr__", "column", "way", "leads", "tab"]

/-- the class stands at the top -/
def ClassAt (t : Heap) (mg : Str → Option Value) (g : G) : Prop :=
  ∃ C N es ep oN fI oI pm doc cdv, mg "Filling" = some (.ref C) ∧ t.get? N = some oN ∧ oN.data = .dict es ep ∧ StrKeys es ∧ g N = some oN ∧ ClsAt t C N (nsFind es) ∧ g C = t.get? C ∧ (∃ K : Frag, K.In t ∧ makesIn K C = true ∧ findIn K (.ref C) "__init__" = some (some (.ref fI)) ∧ typeIn K (.ref fI) = some (.type "function")) ∧ t.get? fI = some oI ∧ oI.cls = .type "function" ∧
    oI.data = .func (methDef ir.name "Filling.__init__" ir.params ir.body ir.scope pm cdv doc) ∧ t.CodeRec cdv "Filling.__init__" ∧ ∀ n ∈ fillNames, nsFind es n = none

theorem set_step {prog : Program} {wd : World} {A : Around} {E : Value → Shared → Prop} {h : Heap} {gg : Array GenState} {dd : Drawn} {tk : Nat} {os : OsState} {env : Env} {m : Str → Option Value} {name param : Str} {p1 p2 p3 pos : Pos} {v : Value} {a da C N : Addr} {mN mA : Str → Option Value} {ns : List Str} {Q : Flow → Shared → Prop}
    (X : ClsAt h C N mN) (hns : mN "__setattr__" = none) (hna : mN name = none) (hB : typeLookup (.type "object") name = pure none) (hL : h.Ns env.locals m) (hself : m "self" = some (.ref a)) (hv : m param = some v) (I : h.Inst a C mA) (hd : ∀ o, h.get? a = some o → o.dict = some da)
    (hLa : env.locals ≠ a) (hLd : env.locals ≠ da) (haC : a ≠ C) (hw : Within mA ns) (hsz : ns.length ≤ 100) (hsl : env.kindOf "self" = some .local) (hpl : env.kindOf param = some .local) (hk : env.scope.kind = .function) (hdb : (param == ("__debug__" : Str)) = false)
    (hq : ∀ h' tk', (∀ b o, b ≠ a → b ≠ da → h.get? b = some o → h'.get? b = some o) → h'.Inst a C (fun y => if y = name then some v else mA y) → (∀ o, h'.get? a = some o → o.dict = some da) → Q .next ⟨h', gg, dd, tk', os⟩)
    (hs : swapsWith (.Name param p3) (some (.Attribute (.Name "self" p1) name p2)) pos.line env = pure false) :
    wpAny (model prog wd) A (exec (.Assign [.Attribute (.Name "self" p1) name p2] (.Name param p3) pos) env) Q E ⟨h, gg, dd, tk, os⟩ := by
  refine plainObj_wpAny_Assign_Attribute (hs := hs) (wpAny_Name (wpAny_loadName_local hk hpl hL hv (wpAny_Name (wpAny_loadName_local hk hsl hL hself ?_) (by decide))) hdb)
  obtain ⟨nm, q, bs, sn, sub, col, d2, k0, k1, k2, k3, k5, hC⟩ := X.obj
  obtain ⟨o, ho, _⟩ := id I
  refine store_attr PySem.F.store_object hC X.ns hns hna hB haC I (fun h' tk' I' hkp hsame => ?_) hw (Nat.le_trans hsz (by rw [sizeLine_eq]; decide))
  refine hq h' tk' (fun b ob h1 h2 e => hkp b ob h1 (fun o₀ dx e₀ ed => ?_) e) I' fun o₁ e₁ => ?_
  · have := hd o₀ e₀
    rw [ed] at this
    cases this; exact h2
  · obtain ⟨o₂, e₂, _, _, _, hdd⟩ := hsame o ho
    obtain rfl := Option.some.inj (e₁.symm.trans e₂)
    exact hdd _ (hd o ho)

section
variable {x : Cx} {env : Env} {μ : Mu} {own : Own}

theorem EV.newFill {pos pos' : Pos} {e : Expr} {es : List Expr} {P : D → Own → Prop} (hc : ClassAt x.t x.mg x.g₀) (hk : 2 ≤ x.k) (h : AR x env μ own (e :: es) fun ds o => ∃ c, ds = [.int c, .str "left", .list (dI [62]), .int 8] ∧ P (.fill c) o)
    (hg : env.globals = mainGlobals := by rfl) (hk' : env.scope.kind = .function := by rfl) (hl : env.kindOf "Filling" = some .globalImplicit := by rfl) (hd : (("Filling" : Str) == ("__debug__" : Str)) = false := by decide)
    (he : eval (.Call (.Name "Filling" pos) (e :: es) [] pos') env = (do callWith pos' (← eval (.Name "Filling" pos) env) [] (backTo pos' (starEach (e :: es) env)) (backToKw pos' (keywordEach [] env))) := by rfl)
    (hs : starEach (e :: es) env = (false, eval e env) :: starEach es env := by rfl) (hplain : (backTo pos' (starEach es env)).any (·.1) = false := by rfl) :
    EV x env μ own (.Call (.Name "Filling" pos) (e :: es) [] pos') P := fun fr g s Q E w kk => by
  obtain ⟨C, N, ens, eep, oN, fI, oI, pm, doc, cdv, q1, q2, q3, q4, q5, X, q6, ⟨K, qk1, qk2, qk3, qk4⟩, q8, q9, q10, q11, q12⟩ := hc
  refine PyProof.Rows.Call_ ?_ he
  refine Calls.Name_function_global hk' hl (Calls.loadGlobal_global (by rw [hg]; exact w.tf.g.keeps w.top) q1 ?_) hd
  refine callWith_cls X (h fr pos' g s _ E w fun ds vs o' g₂ s₂ w₂ l₂ r₂ p => ⟨fun b o e => w₂.top b o e, ?_⟩) hs hplain
  obtain ⟨c, rfl, hP⟩ := p
  have hR := w₂.room
  have X₂ := X.keeps w₂.top
  have X₃ : K.In s₂.heap := fun b o e => w₂.top b o (qk1 b o e)
  obtain ⟨hh, gg, dd, tt, os⟩ := s₂
  obtain ⟨nm, q, bs, sn, sub, col, d2, k0, k1, k2, k3, k5, hC⟩ := X₂.obj
  obtain ⟨a, ea⟩ : ∃ a, a = hh.objs.size + 1 := ⟨_, rfl⟩
  obtain ⟨da, eda⟩ : ∃ a, a = hh.objs.size := ⟨_, rfl⟩
  obtain ⟨h', eh'⟩ : ∃ h', h' = (hh.push emptyDict).push (instObj C hh.objs.size) := ⟨_, rfl⟩
  have Mk : ∀ b o, hh.get? b = some o → h'.get? b = some o := fun b o e => by rw [eh']; exact Heap.get?_push_of_some _ (Heap.get?_push_of_some _ e)
  have hz : h'.objs.size = hh.objs.size + 2 := by rw [eh', Heap.size_push, Heap.size_push]
  have g1 : h'.get? a = some (instObj C da) := by
    have := Heap.get?_push_size (hh.push emptyDict) (o := instObj C hh.objs.size) rfl
    rw [Heap.size_push] at this
    rw [eh', ea, eda]; exact this
  have g0 : h'.get? da = some emptyDict := by rw [eh', eda]; exact Heap.get?_push_of_some _ (Heap.get?_push_size _ rfl)
  refine wpAny_call (make_core (makes_of X₃ qk2) (looks_findIn X₃ qk3) (fun self => bind_fn X₃ self qk4) (.inl rfl) ?_)
  rw [← eh', ← ea]
  have htop : ∀ b o, x.t.get? b = some o → h'.get? b = some o := fun b o e => Mk _ _ (w₂.top b o e)
  rw [RepL] at r₂; obtain ⟨v1, us, rfl, rv1, r₂⟩ := r₂
  rw [RepL] at r₂; obtain ⟨v2, us, rfl, rv2, r₂⟩ := r₂
  obtain ⟨v3, v4, rfl, rv3, rv4⟩ := r₂.two
  refine codeAny_call_def (fd := methDef ir.name "Filling.__init__" ir.params ir.body ir.scope pm cdv doc) (body := ir.body) (binds := [("self", .ref a), ("column", v1), ("way", v2), ("leads", v3), ("tab", v4)])
    (by show x.A.depth + 1 < _; have := hR.depth; omega) (htop _ _ q8) q10 (w₂.tf.nolimit.keeps htop) (q11.keeps htop) rfl (.of_eq rfl) (by show ∀ y ∈ ir.scope.names, y.2 ≠ .cell; decide) (fun y hy => ?_) (fun h₁ hns hk₁ => ?_) rfl rfl rfl
  · simp only [List.mem_cons, List.not_mem_nil, or_false] at hy
    rcases hy with rfl | rfl | rfl | rfl | rfl <;> rfl
  have I₁ : h₁.Inst a C (fun _ => none) := ⟨_, hk₁ _ _ g1, rfl, nofun, .inr ⟨da, rfl, by rw [ea, eda]; exact Nat.ne_of_lt (Nat.lt_succ_self _), ⟨_, #[], 0, hk₁ _ _ g0, rfl, (fun e he => absurd he (Array.not_mem_empty e)), by simp [UniqKeys], fun _ => rfl⟩⟩⟩
  have hdct : ∀ o, h₁.get? a = some o → o.dict = some da := fun o e => by
    obtain rfl := Option.some.inj ((hk₁ _ _ g1).symm.trans e); rfl
  have ha : a < h'.objs.size := by rw [hz, ea]; omega
  have hda : da < h'.objs.size := by rw [hz, eda]; omega
  have k0' : ∀ b o, hh.get? b = some o → b ≠ a ∧ b ≠ da := fun b o e => by
    have := Heap.lt_size e
    exact ⟨Nat.ne_of_lt (by rw [ea]; exact Nat.lt_succ_of_lt this), Nat.ne_of_lt (by rw [eda]; exact this)⟩
  have haC : a ≠ C := fun e => (k0' C _ hC).1 e.symm
  have nL : h'.objs.size ≠ a := Nat.ne_of_gt ha
  have nLd : h'.objs.size ≠ da := Nat.ne_of_gt hda
  have n1 : nsFind ens "__setattr__" = none := q12 _ (by decide)
  have ka : ∀ b o, hh.get? b = some o → h₁.get? b = some o := fun b o e => hk₁ _ _ (Mk _ _ e)
  -- the four rows
  refine wpAny_execs_cons (set_step (a := a) (da := da) (v := v1) (m := fun y => List.lookup y [("tab", v4), ("leads", v3), ("way", v2), ("column", v1), ("self", .ref a)]) (ns := []) (X₂.keeps ka) n1 (q12 _ (by decide)) no_column hns rfl rfl I₁ hdct nL nLd haC Within.nil (by decide) rfl rfl rfl (by decide) (fun h2 tk2 kp2 I2 hd2 => ?_) rfl)
  have kb : ∀ b o, hh.get? b = some o → h2.get? b = some o := fun b o e => kp2 b o (k0' b o e).1 (k0' b o e).2 (ka b o e)
  have ns2 := hns.at (h' := h2) (fun o e => kp2 _ o nL nLd e)
  refine wpAny_execs_cons (set_step (a := a) (da := da) (v := v2) (m := fun y => List.lookup y [("tab", v4), ("leads", v3), ("way", v2), ("column", v1), ("self", .ref a)]) (ns := ["column"]) (X₂.keeps kb) n1 (q12 _ (by decide)) no_way ns2 rfl rfl I2 hd2 nL nLd haC (Within.cons _ _ Within.nil) (by decide) rfl rfl rfl (by decide) (fun h3 tk3 kp3 I3 hd3 => ?_) rfl)
  have kc : ∀ b o, hh.get? b = some o → h3.get? b = some o := fun b o e => kp3 b o (k0' b o e).1 (k0' b o e).2 (kb b o e)
  have ns3 := ns2.at (h' := h3) (fun o e => kp3 _ o nL nLd e)
  refine wpAny_execs_cons (set_step (a := a) (da := da) (v := v3) (m := fun y => List.lookup y [("tab", v4), ("leads", v3), ("way", v2), ("column", v1), ("self", .ref a)]) (ns := ["way", "column"]) (X₂.keeps kc) n1 (q12 _ (by decide)) no_leads ns3 rfl rfl I3 hd3 nL nLd haC (Within.cons _ _ (Within.cons _ _ Within.nil)) (by decide) rfl rfl rfl (by decide) (fun h4 tk4 kp4 I4 hd4 => ?_) rfl)
  have kd : ∀ b o, hh.get? b = some o → h4.get? b = some o := fun b o e => kp4 b o (k0' b o e).1 (k0' b o e).2 (kc b o e)
  have ns4 := ns3.at (h' := h4) (fun o e => kp4 _ o nL nLd e)
  refine wpAny_execs_cons (set_step (a := a) (da := da) (v := v4) (m := fun y => List.lookup y [("tab", v4), ("leads", v3), ("way", v2), ("column", v1), ("self", .ref a)]) (ns := ["leads", "way", "column"]) (X₂.keeps kd) n1 (q12 _ (by decide)) no_tab ns4 rfl rfl I4 hd4 nL nLd haC (Within.cons _ _ (Within.cons _ _ (Within.cons _ _ Within.nil))) (by decide) rfl rfl rfl (by decide) (fun h5 tk5 kp5 I5 hd5 => ?_) rfl)
  have ke : ∀ b o, hh.get? b = some o → h5.get? b = some o := fun b o e => kp5 b o (k0' b o e).1 (k0' b o e).2 (kd b o e)
  refine wpAny_execs_nil ⟨rfl, ?_⟩
  obtain ⟨oa, eoa, eac, ean, ead⟩ := I5
  have edd := hd5 _ eoa
  obtain ⟨d', f1, f2, f3⟩ : ∃ d', oa.dict = some d' ∧ d' ≠ a ∧ h5.Ns1 d' _ := by
    rcases ead with ⟨e4, _⟩ | h
    · rw [e4] at edd; cases edd
    · exact h
  rw [f1] at edd; cases edd
  obtain ⟨od, des, dep, g2, g3, g4, g5, g6⟩ := f3
  have szle : hh.objs.size + 1 < h5.objs.size := by have := Heap.lt_size eoa; rw [ea] at this; exact this
  have w₃ : W x env.locals g₂ μ (o' ++ fr) ⟨h5, gg, dd, tk5, os⟩ := w₂.grow (fun b o e => ke b o e) (by show hh.objs.size ≤ h5.objs.size; omega) rfl rfl
  have s0 : x.s₀.heap.objs.size ≤ hh.objs.size := w₂.ext.size
  have hLl : env.locals < hh.objs.size := w₂.Llt
  have lo : ∀ q ∈ o' ++ fr, q.1 < hh.objs.size := fun q hq => w₂.ownlt hq
  have ga : g₂ a = none := w₂.gsize (by show hh.objs.size ≤ a; rw [ea]; omega)
  have gd : g₂ da = none := w₂.gsize (by show hh.objs.size ≤ da; rw [eda]; exact Nat.le_refl _)
  have w₄ := w₃.freezeG (a := a) eoa (Nat.le_trans s0 (by omega)) (Nat.ne_of_gt (Nat.lt_of_lt_of_le hLl (by omega))) (fun p hp => Nat.ne_of_lt (Nat.lt_of_lt_of_le (lo p hp) (by omega))) ga
  have gd' : (g₂.add a oa) da = none := by
    unfold G.add
    rw [if_neg (by omega)]; exact gd
  have w₅ := w₄.freezeG (a := da) g2 (Nat.le_trans s0 (by omega)) (Nat.ne_of_gt (Nat.lt_of_lt_of_le hLl (by omega))) (fun p hp => Nat.ne_of_lt (Nat.lt_of_lt_of_le (lo p hp) (by omega))) gd'
  have l₃ : G.le g₂ (g₂.add a oa) := G.add_le _ ga
  have l₄ : G.le (g₂.add a oa) ((g₂.add a oa).add da od) := G.add_le _ gd'
  refine kk (.fill c) _ o' _ _ w₅ (l₂.trans (l₃.trans l₄)) ?_ hP
  obtain ⟨t1, rfl⟩ := rv1.intI
  obtain ⟨t2, rfl⟩ := rv2.strI
  obtain ⟨la, lvs, ln, rfl, hla, rl⟩ := rv3.listI
  obtain ⟨t3, rfl⟩ := rv4.intI
  obtain ⟨lv, rfl, rlv⟩ := rl.one
  obtain ⟨t4, rfl⟩ := rlv.intI
  have lall := l₃.trans l₄
  have gC : g₂ C = x.t.get? C := by
    obtain ⟨_, _, _, _, _, _, _, _, _, _, _, _, hCt⟩ := X.obj
    rw [hCt]; rw [hCt] at q6
    exact w₂.ext.gg _ _ q6
  obtain ⟨_, _, _, _, _, _, _, _, _, _, _, _, hCt⟩ := X.obj
  rw [Rep]
  refine ⟨a, da, la, C, oa, od, des, dep, t1, t2, t3, t4, ln, rfl, f2, ?_, l₄ _ _ (G.add_self ..), eac, ean, f1, G.add_self .., g3, g4, g5, fun n => ?_, lall _ _ hla⟩
  · exact ⟨_, _, _, _, _, _, _, _, _, _, _, _, _, _, _, _, _, _, lall _ _ (gC.trans hCt), lall _ _ (w₂.ext.gg _ _ q5), q3, q4, q12 _ (by decide), q12 _ (by decide), q12 _ (by decide), q12 _ (by decide), q12 _ (by decide)⟩
  · rw [g6]
    unfold fillMap
    by_cases e1 : n = "column"
    · subst e1; rfl
    · by_cases e2 : n = "way"
      · subst e2; rfl
      · by_cases e3 : n = "leads"
        · subst e3; rfl
        · simp only [e1, e2, e3, if_false]
end
end Fill66
end
noncomputable section
open PySem PySem.W PyProof.Rows
set_option maxRecDepth 100000
namespace Fill66

/-- a def that turns the list lent to it as its first argument; what it gives is known by a relation -/
structure FNR {α : Type} (i : Nat) (k : Nat) (names : List Str) (cell : α → List D) (enc : α → List D) (pre : α → Prop) (post : α → D → List D → Prop) where
  binds : Binds i names
  isDef : Fill66.isDef i = true
  len : ∀ p, (enc p).length + 1 = names.length
  walk : ∀ (x : Cx) (L a : Addr) (cd : Value) (a₀ : Addr) (p : α), k ≤ x.k → x.lent = some a₀ → pre p →
    EX x (envOf (dr i).name (dr i).scope L a cd) (names.zip (.mut a₀ :: enc p)) [(a₀, .lst (cell p))] (dr i).body fun fd _ own => ∃ d c', fd = .ret d ∧ (a₀, .lst c') ∈ own ∧ post p d c'

section
variable {x : Cx} {env : Env} {μ : Mu} {own : Own}

theorem EV.callR {α : Type} {i k : Nat} {names : List Str} {cell enc : α → List D} {pre : α → Prop} {post : α → D → List D → Prop} {nm : Str} {pos pos' : Pos} {e : Expr} {es : List Expr} {P : D → Own → Prop} (F : FNR i k names cell enc pre post) (hk : k + 1 ≤ x.k)
    (h : AR x env μ own (e :: es) fun ds' o => ∃ a₀ o₁ p, ds' = .mut a₀ :: enc p ∧ o.Perm ((a₀, .lst (cell p)) :: o₁) ∧ pre p ∧ ∀ d c', post p d c' → P d ((a₀, .lst c') :: o₁)) (hn : (dr i).name = nm := by rfl)
    (hg : env.globals = mainGlobals := by rfl) (hk' : env.scope.kind = .function := by rfl) (hl : env.kindOf nm = some .globalImplicit := by rfl) (hd : (nm == ("__debug__" : Str)) = false := by decide)
    (he : eval (.Call (.Name nm pos) (e :: es) [] pos') env = (do callWith pos' (← eval (.Name nm pos) env) [] (backTo pos' (starEach (e :: es) env)) (backToKw pos' (keywordEach [] env))) := by rfl)
    (hs : starEach (e :: es) env = (false, eval e env) :: starEach es env := by rfl) :
    EV x env μ own (.Call (.Name nm pos) (e :: es) [] pos') P := fun fr g s Q E w kk => by
  subst hn
  obtain ⟨f, o, pm, code, doc, h1, h2, h3, h4⟩ := w.tf.fn i F.isDef
  obtain ⟨b1, b2, b3, b4, b5, b6, b7⟩ := F.binds
  refine PyProof.Rows.Call_ ?_ he
  refine Calls.Name_function_global hk' hl (Calls.loadGlobal_global (by rw [hg]; exact w.tf.g.keeps w.top) h1 ?_) hd
  refine PyProof.Rows.callWith_def h3 ?_ hs
  refine h fr pos' g s _ E w fun ds' vs o' g₂ s₂ w₂ l₂ r p => ⟨w₂.top _ _ h2, ?_⟩
  obtain ⟨a₀, o₁, p, rfl, hperm, hp, hpost⟩ := p
  have w₃ : W x env.locals g₂ μ ((a₀, .lst (cell p)) :: (o₁ ++ fr)) s₂ := w₂.ownPerm ((hperm.append_right fr).symm)
  have hR := w₂.room
  refine wpAny_call (call_plain_ret (by have := hR.depth; omega) (w₂.top _ _ h2) h3 (w₂.tf.nolimit.keeps w₂.top) (h4.keeps w₂.top) (b2 vs pm code doc (by rw [r.length, ← F.len p]; rfl)) (fun y hy => b3 _ (List.of_mem_zip hy).1) (fun h₁ F₁ => ?_) b4 b5 b6 b7)
  let env' : Env := envOf (dr i).name (dr i).scope s₂.heap.objs.size f code
  let x' : Cx := { x with A := x.A.deeper env', k := x.k - 1, s₀ := s₂, g₀ := g₂, lent := some a₀ }
  have c₁ := w₃.own _ List.mem_cons_self
  have lt₀ : a₀ < s₂.heap.objs.size := w₃.ownlt (p := (a₀, .lst (cell p))) List.mem_cons_self
  have w₄ : W x' s₂.heap.objs.size g₂ (names.zip (.mut a₀ :: enc p)) ([(a₀, .lst (cell p))] ++ []) { s₂ with heap := h₁, toks := s₂.toks + (names.zip vs).length } := {
    tf := w₂.tf
    room := ⟨hR.handled, by show x.A.depth + 1 + (x.k - 1) < _; have := hR.depth; omega, by show x.A.units + 3 + 20 * (x.k - 1) + 100 < _; have := hR.units; omega⟩
    ext := ⟨fun b o e _ => F₁.keep b o e, Nat.le_of_lt F₁.ns.lt, rfl, rfl, G.le.refl g₂, fun b o e => F₁.keep _ _ (w₂.ext.gh b o e), fun b hb => .inl hb⟩
    tb := Nat.le_trans w₂.tb w₂.ext.size
    top := fun b o e => F₁.keep _ _ (w₂.top b o e)
    ns := ⟨_, F₁.ns, fun y d e => zip_ns b1 r y d e⟩
    Lb := Nat.le_refl _
    gL := w₂.gsize (Nat.le_refl _)
    own := fun q hq => by
      obtain rfl : q = (a₀, .lst (cell p)) := by simpa using hq
      exact ⟨c₁.1.mono (G.le.refl _) (fun o e => F₁.keep _ _ e), c₁.2.1, .inr rfl, Nat.ne_of_lt lt₀, c₁.2.2.2.2⟩
    nodup := by simp
    lentT := fun b hb => by
      obtain rfl : a₀ = b := Option.some.inj hb
      exact ⟨c₁.2.1, lt₀⟩ }
  refine F.walk x' s₂.heap.objs.size f code a₀ p (by show k ≤ x.k - 1; omega) rfl hp [] g₂ _ _ _ w₄ fun fd fl μ' own' g' s' w' l' r' q => ?_
  obtain ⟨d, c', rfl, hc', hq⟩ := q
  obtain ⟨v, rfl, rv⟩ := r'
  have w₅ := w₃.callLent w'.ext (c' := .lst c') (w'.own _ (List.mem_append_left _ hc')).1
  exact kk _ v _ g' s' w₅ (l₂.trans l') rv (hpost _ _ hq)

end
end Fill66
end
noncomputable section
open PySem PySem.W PyProof.Rows
set_option maxRecDepth 100000
namespace Fill66

/-! the text's functions as plain functions -/
abbrev Piece := List Int × Int

def isBlank (c : Int) : Bool := c == 32 || c == 9 || c == 10
def isCloser (c : Int) : Bool := [34, 39, 41, 93, 125].contains c
def isEnd (c : Int) : Bool := [33, 46, 63].contains c
def endsSentence (w : List Int) : Bool := match w.reverse.dropWhile isCloser with
  | [] => false
  | c :: _ => isEnd c
def gapOf (w b : List Int) : Int := if endsSentence w then (if b.contains 10 || decide (1 < b.length) then 2 else 1) else 1

theorem dropWhile_length_le {α : Type} (p : α → Bool) : ∀ l : List α, (l.dropWhile p).length ≤ l.length
  | [] => Nat.le_refl _
  | a :: l => by
    rw [List.dropWhile_cons]
    split
    · exact Nat.le_succ_of_le (dropWhile_length_le p l)
    · exact Nat.le_refl _

theorem pieces_dec {l : List Int} (h : l ≠ []) : ((l.dropWhile (!isBlank ·)).dropWhile isBlank).length < l.length := by
  cases l with
  | nil => exact absurd rfl h
  | cons c l =>
    by_cases hb : isBlank c = true
    · have : (c :: l).dropWhile (!isBlank ·) = c :: l := by rw [List.dropWhile_cons, hb]; rfl
      rw [this, List.dropWhile_cons, hb]
      exact Nat.lt_succ_of_le (dropWhile_length_le _ _)
    · have hb' : isBlank c = false := by simpa using hb
      have : (c :: l).dropWhile (!isBlank ·) = l.dropWhile (!isBlank ·) := by rw [List.dropWhile_cons, hb']; rfl
      rw [this]
      exact Nat.lt_succ_of_le (Nat.le_trans (dropWhile_length_le _ _) (dropWhile_length_le _ _))

def piecesR (l : List Int) : List Piece :=
  if h : l = [] then [] else
    (l.takeWhile (!isBlank ·), gapOf (l.takeWhile (!isBlank ·)) ((l.dropWhile (!isBlank ·)).takeWhile isBlank)) :: piecesR ((l.dropWhile (!isBlank ·)).dropWhile isBlank)
termination_by l.length
decreasing_by exact pieces_dec h
theorem piecesR_nil : piecesR [] = [] := by rw [piecesR]; rfl
theorem piecesR_cons {l : List Int} (h : l ≠ []) : piecesR l = (l.takeWhile (!isBlank ·), gapOf (l.takeWhile (!isBlank ·)) ((l.dropWhile (!isBlank ·)).takeWhile isBlank)) :: piecesR ((l.dropWhile (!isBlank ·)).dropWhile isBlank) := by
  rw [piecesR, dif_neg h]
theorem piecesR_length (l : List Int) : (piecesR l).length ≤ l.length := by
  induction hn : l.length using Nat.strongRecOn generalizing l with
  | ind n ih =>
    by_cases h : l = []
    · subst h; rw [piecesR_nil]; exact Nat.zero_le _
    · rw [piecesR_cons h, List.length_cons]
      have := ih _ (hn ▸ pieces_dec h) _ rfl
      have := pieces_dec h
      omega
def piecesOf (l : List Int) : List Piece := piecesR (l.dropWhile isBlank)

def mayBreak (p : Piece) : Bool := decide (1 < p.2) || p.1.getLast? != some 46
/-- how many of the pieces go into a row -/
def rowGo (width : Int) : List Piece → Int → Nat → Nat → Nat
  | [], _, _, k => k
  | p :: r, used, best, k =>
    if decide (width < used + p.1.length) && decide (0 < best) then best
    else if r.isEmpty || mayBreak p then (if width < used + p.1.length then k + 1 else rowGo width r (used + p.1.length + p.2) (k + 1) (k + 1))
    else rowGo width r (used + p.1.length + p.2) best (k + 1)
def rowLen (width : Int) (ps : List Piece) : Nat := rowGo width ps 0 0 0

theorem rowGo_bounds (width : Int) : ∀ (ps : List Piece) (used : Int) (best k : Nat), (best ≤ k) → (ps = [] → 0 < k) → 0 < rowGo width ps used best k ∧ rowGo width ps used best k ≤ k + ps.length
  | [], _, _, k, _, h => by simp only [rowGo, List.length_nil]; exact ⟨h rfl, by omega⟩
  | p :: r, used, best, k, hb, _ => by
    unfold rowGo
    split
    · rename_i h
      simp only [Bool.and_eq_true, decide_eq_true_eq] at h
      simp only [List.length_cons]; omega
    · split
      · split
        · simp only [List.length_cons]; omega
        · have := rowGo_bounds width r (used + p.1.length + p.2) (k + 1) (k + 1) (Nat.le_refl _) (fun _ => by omega)
          simp only [List.length_cons]; omega
      · have := rowGo_bounds width r (used + p.1.length + p.2) best (k + 1) (by omega) (fun _ => by omega)
        simp only [List.length_cons]; omega
theorem rowLen_bounds (width : Int) (ps : List Piece) (h : ps ≠ []) : 0 < rowLen width ps ∧ rowLen width ps ≤ ps.length := by
  have := rowGo_bounds width ps 0 0 0 (Nat.le_refl _) (fun e => absurd e h)
  simpa [rowLen] using this

def rowsR (first width : Int) (ps : List Piece) : List (List Piece) :=
  if h : ps = [] then [] else ps.take (rowLen first ps) :: rowsR width width (ps.drop (rowLen first ps))
termination_by ps.length
decreasing_by
  have := rowLen_bounds first ps h
  rw [List.length_drop]; omega

def rowCodes : List Piece → List Int
  | [] => []
  | [p] => p.1
  | p :: r => p.1 ++ List.replicate p.2.toNat 32 ++ rowCodes r

def splitRows (codes : List Int) : List (List Int) := codes.foldl (fun rows c => if c == 10 then rows ++ [[]] else rows.dropLast ++ [rows.getLastD [] ++ [c]]) [[]]
def joinedRows : List (List Int) → List Int
  | [] => []
  | [r] => r
  | r :: rs => r ++ 10 :: joinedRows rs
def isLead (c : Int) : Bool := c == 32 || c == 9 || c == 62
def leadOf (row : List Int) : List Int := row.takeWhile isLead
def commonStart : List Int → List Int → List Int
  | a :: l, b :: r => if a == b then a :: commonStart l r else []
  | _, _ => []
def isBlankLead (lead : List Int) : Bool := lead.all fun c => c == 32 || c == 9
def leadsOf : List (List Int) → List Int × List Int
  | [] => ([], [])
  | [r] => (leadOf r, if isBlankLead (leadOf r) then leadOf r else [])
  | r :: s :: rs => (leadOf r, rs.foldl (fun c x => commonStart c (leadOf x)) (leadOf s))
def wordsOfRows (first rest : List Int) : List (List Int) → List Int
  | [] => []
  | r :: rs => rs.foldl (fun w x => w ++ 10 :: x.drop rest.length) (r.drop first.length)
def placeRows (first rest : List Int) : List (List Piece) → List (List Int)
  | [] => []
  | p :: ps => (first ++ rowCodes p) :: ps.map fun q => rest ++ rowCodes q
def filledPara (col : Int) (rows : List (List Int)) : List (List Int) :=
  placeRows (leadsOf rows).1 (leadsOf rows).2 (rowsR (col - (leadsOf rows).1.length) (col - (leadsOf rows).2.length) (piecesOf (wordsOfRows (leadsOf rows).1 (leadsOf rows).2 rows)))
def fillStep (col : Int) (st : List (List Int) × List (List Int)) (row : List Int) : List (List Int) × List (List Int) :=
  if (leadOf row).length == row.length then
    ((if st.2.isEmpty then st.1 else st.1 ++ filledPara col st.2) ++ [row], [])
  else (st.1, st.2 ++ [row])
def fillRows (col : Int) (rows : List (List Int)) : List (List Int) :=
  let st := rows.foldl (fillStep col) ([], [])
  if st.2.isEmpty then st.1 else st.1 ++ filledPara col st.2
def filledText (col : Int) (codes : List Int) : List Int := joinedRows (fillRows col (splitRows codes))

theorem rowsR_nil (first width : Int) : rowsR first width [] = [] := by rw [rowsR]; rfl
theorem rowsR_cons (first width : Int) {ps : List Piece} (h : ps ≠ []) : rowsR first width ps = ps.take (rowLen first ps) :: rowsR width width (ps.drop (rowLen first ps)) := by rw [rowsR, dif_neg h]

/-- a scan that goes on while p holds -/
theorem scan_end {l : List Int} {p : Int → Bool} {j : Nat} {R : List Int} (h : (l.drop j).dropWhile p = R) (he : ∀ c, l[j]? = some c → p c = false) : l.drop j = R := by
  rw [← h]
  cases e : l.drop j with
  | nil => rfl
  | cons c r =>
    have : l[j]? = some c := by
      have := congrArg (·[0]?) e
      simpa using this
    rw [List.dropWhile_cons, he c this]; rfl
theorem drop_get {l : List Int} {j : Nat} {c : Int} (h : l[j]? = some c) : l.drop j = c :: l.drop (j + 1) := by
  obtain ⟨hj, e⟩ := List.getElem?_eq_some_iff.mp h
  rw [List.drop_eq_getElem_cons hj, e]
theorem cut_succ {l : List Int} {i j : Nat} {c : Int} (hij : i ≤ j) (h : l[j]? = some c) : cut l (some i) (some (j + 1)) = cut l (some i) (some j) ++ [c] := by
  obtain ⟨hj, e⟩ := List.getElem?_eq_some_iff.mp h
  unfold cut
  simp only [Option.elim, id]
  rw [List.take_add_one, h, List.drop_append_of_le_length (by rw [List.length_take]; omega)]
  rfl
theorem cut_self {α : Type} (l : List α) (i : Nat) : cut l (some i) (some i) = [] := by
  unfold cut
  simp only [Option.elim, id]
  exact List.drop_of_length_le (List.length_take_le ..)

/-! their data as abstract values -/
def dL (l : List Int) : D := .list (dI l)
def dP (p : Piece) : D := .tup [dL p.1, .int p.2]
def dPs (ps : List Piece) : D := .list (ps.map dP)
def dR (rs : List (List Int)) : D := .list (rs.map dL)

theorem dI_append (a b : List Int) : dI (a ++ b) = dI a ++ dI b := List.map_append
theorem dI_length (a : List Int) : (dI a).length = a.length := List.length_map _
theorem dI_get (a : List Int) (i : Nat) : (dI a)[i]? = (a[i]?).map D.int := List.getElem?_map
theorem dI_drop (a : List Int) (i : Nat) : (dI a).drop i = dI (a.drop i) := List.map_drop.symm
theorem dI_take (a : List Int) (i : Nat) : (dI a).take i = dI (a.take i) := List.map_take.symm
theorem cut_map {α β : Type} (f : α → β) (l : List α) (lo hi : Option Nat) : cut (l.map f) lo hi = (cut l lo hi).map f := by
  unfold cut
  cases hi <;> simp [List.map_drop, List.map_take]

end Fill66
end
noncomputable section
open PySem PySem.W PyProof.Rows
set_option maxRecDepth 100000
namespace Fill66

/-! texts as lists of ints -/
def S (l : List Int) : Str := ⟨(l.map Int.toNat).toArray⟩
theorem S_append (a b : List Int) : S (a ++ b) = S a ++ S b := Str.ext' (by simp [S, Str.cps_append])
theorem S_length (a : List Int) : (S a).length = a.length := by simp [S, Str.length]
theorem S_toList (a : List Int) : (S a).cps.toList = a.map Int.toNat := by simp [S]
theorem S_empty : S [] = "" := by decide
theorem S_dot : S [46] = "." := by decide

def lettersN (k : Nat) : List Int := ([97, 98, 99, 100, 101, 102, 103] : List Int).take k
/-- a word, with a stop or without -/
def Word (st : Bool) (w : List Int) : Prop := ∃ k, 1 ≤ k ∧ k ≤ 6 ∧ (w = lettersN k ∨ (st = true ∧ w = lettersN k ++ [46]))
theorem lettersN_length {k : Nat} (h : k ≤ 6) : (lettersN k).length = k := by simp [lettersN]; omega
theorem Word.length {st : Bool} {w : List Int} (h : Word st w) : 1 ≤ w.length ∧ w.length ≤ 7 := by
  obtain ⟨k, h1, h2, h3⟩ := h
  have := lettersN_length h2
  rcases h3 with rfl | ⟨_, rfl⟩
  · omega
  · rw [List.length_append, this]; simp; omega
theorem slice_letters : ∀ r, r < 6 → Txt.slice "abcdefg" none (some ((1 + r : Nat) : Int)) = S (lettersN (1 + r)) := by decide
end Fill66
end
noncomputable section
open PySem PySem.W PyProof.Rows
set_option maxRecDepth 100000
namespace Fill66

theorem lit_sizeLine {n : Nat} (h : n ≤ 2 ^ 21) : n ≤ sizeLine := by rw [sizeLine_eq]; omega

theorem fn_is_blank : FN 7 0 ["code"] (fun c : Int => [.int c]) (fun _ => True) (fun c => .bool (isBlank c)) where
  binds := ⟨by decide, (fun vs pm code doc h => match vs, h with | [_], _ => rfl), by decide, rfl, rfl, rfl, by decide⟩
  isDef := rfl
  len := fun _ => rfl
  walk := fun x L a cd c hk hl _ => by
    refine EX.cons (EX1.ret (EV.or3 (EV.cmp (EV.name (d := .int c) rfl (EV.globInt (i := 32) rfl (OpOk.eq_int ⟨_, rfl, fun b1 => ?_, fun b1 => ?_⟩))))))
    · refine EV.or2 (EV.cmp (EV.name (d := .int c) rfl (EV.globInt (i := 9) rfl (OpOk.eq_int ⟨_, rfl, fun b2 => ?_, fun b2 => ?_⟩))))
      · refine EV.cmp (EV.name (d := .int c) rfl (EV.globInt (i := 10) rfl (OpOk.eq_int ?_)))
        show FlowD.ret _ = _
        simp [isBlank, b1, b2]
      · show FlowD.ret _ = _
        simp [isBlank, b2]
    · show FlowD.ret _ = _
      simp [isBlank, b1]

theorem dropWhile_take_succ (w : List Int) (n : Nat) (c : Int) (h : w[n]? = some c) : (w.take (n + 1)).reverse = c :: (w.take n).reverse := by
  rw [List.take_add_one, h]; simp

theorem fn_ends_sentence : FN 8 0 ["word"] (fun w : List Int => [dL w]) (fun w => w.length ≤ 2 ^ 20) (fun w => .bool (endsSentence w)) where
  binds := ⟨by decide, (fun vs pm code doc h => match vs, h with | [_], _ => rfl), by decide, rfl, rfl, rfl, by decide⟩
  isDef := rfl
  len := fun _ => rfl
  walk := fun x L a cd w hk hl hw => by
    refine EX.cons (EX1.assign (EV.binop (EV.callB (by decide) (by decide) (AR.cons (EV.name (d := dL w) rfl (AR.nil (CallOk.len_list (by rw [dI_length]; exact lit_sizeLine (by omega)) (EV.int (OpOk.sub_int ?_)))))))))
    rw [dI_length]
    refine EX.cons (EX1.while_ (fun n μ own => ∃ i : Int, μ = ([("word", dL w), ("at", .int i)] : Mu) ∧ own = [] ∧ -1 ≤ i ∧ i < w.length ∧ n = (i + 1).toNat ∧ (w.take (i + 1).toNat).reverse.dropWhile isCloser = w.reverse.dropWhile isCloser)
      w.length ⟨_, rfl, rfl, by omega, by omega, by omega, by congr 2; exact List.take_of_length_le (by omega)⟩ ?_)
    rintro n μ own ⟨i, rfl, rfl, h1, h2, rfl, h3⟩
    refine TS.boolop (TA.and (TS.cmp (EV.name (d := .int i) rfl (EV.int (OpOk.ge_int ⟨_, rfl, fun b1 => ?_, fun b1 => ⟨nofun, fun _ => ?_⟩⟩)))))
    · have hi : 0 ≤ i := by simpa using b1
      obtain ⟨c, hc⟩ : ∃ c, w[i.toNat]? = some c := ⟨w[i.toNat]'(by omega), List.getElem?_eq_getElem (by omega)⟩
      refine TA.and (TS.inTop (ls := [34, 39, 41, 93, 125]) rfl (EV.index (EV.name (d := dL w) rfl (EV.name (d := .int i) rfl ⟨dI w, i, .int c, .inl rfl, rfl, by omega, ?_, c, rfl, fun b2 => TA.andNil ⟨fun _ => ?_, nofun⟩, fun b2 => ⟨nofun, fun _ => ?_⟩⟩))))
      · unfold itemAt; rw [if_pos hi, dI_get, hc]; rfl
      · refine EX.cons (EX1.assign (EV.binop (EV.name (d := .int i) rfl (EV.int (OpOk.sub_int (EX.nil ⟨i.toNat, by omega, i - 1, rfl, rfl, by omega, by omega, by omega, ?_⟩))))))
        rw [← h3]
        have e : (i + 1).toNat = i.toNat + 1 := by omega
        have e' : (i - 1 + 1).toNat = i.toNat := by omega
        rw [e, e', dropWhile_take_succ w _ c hc, List.dropWhile_cons]
        have : isCloser c = true := b2
        rw [this]; rfl
      · refine EX.cons (EX1.ret (EV.and2 (EV.cmp (EV.name (d := .int i) rfl (EV.int (OpOk.ge_int ⟨_, rfl, fun _ => ?_, fun b3 => (by rw [b1] at b3; cases b3)⟩))))))
        refine EV.inTop (ls := [33, 46, 63]) rfl (EV.index (EV.name (d := dL w) rfl (EV.name (d := .int i) rfl ⟨dI w, i, .int c, .inl rfl, rfl, by omega, ?_, c, rfl, ?_⟩)))
        · unfold itemAt; rw [if_pos hi, dI_get, hc]; rfl
        · show FlowD.ret _ = _
          have e : (i + 1).toNat = i.toNat + 1 := by omega
          unfold endsSentence
          rw [← h3, e, dropWhile_take_succ w _ c hc, List.dropWhile_cons]
          have : isCloser c = false := b2
          rw [this]; rfl
    · refine EX.cons (EX1.ret (EV.and2 (EV.cmp (EV.name (d := .int i) rfl (EV.int (OpOk.ge_int ⟨_, rfl, fun b3 => (by rw [b1] at b3; cases b3), fun _ => ?_⟩))))))
      show FlowD.ret _ = _
      have hi : ¬ 0 ≤ i := by simpa using b1
      have e : (i + 1).toNat = 0 := by omega
      unfold endsSentence
      rw [← h3, e]; rfl

theorem fn_gap_of : FN 9 1 ["word", "between"] (fun p : List Int × List Int => [dL p.1, dL p.2]) (fun p => p.1.length ≤ 2 ^ 20 ∧ p.2.length ≤ 2 ^ 20) (fun p => .int (gapOf p.1 p.2)) where
  binds := ⟨by decide, (fun vs pm code doc h => match vs, h with | [_, _], _ => rfl), by decide, rfl, rfl, rfl, by decide⟩
  isDef := rfl
  len := fun _ => rfl
  walk := fun x L a cd ⟨w, b⟩ hk hl ⟨hw, hb⟩ => by
    simp only at hw hb
    refine EX.cons (EX1.if_ (TS.not (TS.value (EV.callF fn_ends_sentence (by omega) (AR.cons (EV.name (d := dL w) rfl (AR.nil ⟨w, rfl, hw, _, rfl, fun b1 => ?_, fun b1 => ?_⟩)))))))
    · refine EX.cons (EX1.ret (EV.int ?_))
      show FlowD.ret _ = _
      have : endsSentence w = false := by simpa using b1
      simp [gapOf, this]
    · have e1 : endsSentence w = true := by simpa using b1
      refine EX.nil (EX.cons (EX1.ret (EV.ifexp (TS.boolop (TA.or (TS.cmp (EV.globInt (i := 10) rfl (EV.name (d := dL b) rfl (OpOk.in_list ⟨_, rfl, fun b2 => ?_, fun b2 => ⟨fun _ => EV.int ?_, nofun⟩⟩)))))))))
      · refine TA.or (TS.cmp (EV.callB (by decide) (by decide) (AR.cons (EV.name (d := dL b) rfl (AR.nil (CallOk.len_list (by rw [dI_length]; exact lit_sizeLine (by omega)) (EV.int (OpOk.gt_int ⟨_, rfl, fun b3 => TA.orNil ⟨nofun, fun _ => EV.int ?_⟩, fun b3 => ⟨fun _ => EV.int ?_, nofun⟩⟩))))))))
        · show FlowD.ret _ = _
          rw [dI_length] at b3
          have : decide (1 < b.length) = false := by simp only [decide_eq_false_iff_not] at b3 ⊢; omega
          simp only [gapOf, e1, b2, this]; rfl
        · show FlowD.ret _ = _
          rw [dI_length] at b3
          have : decide (1 < b.length) = true := by simp only [decide_eq_true_eq] at b3 ⊢; omega
          simp only [gapOf, e1, this, Bool.or_true]; rfl
      · show FlowD.ret _ = _
        simp only [gapOf, e1, b2, Bool.true_or]; rfl

end Fill66
end
noncomputable section
open PySem PySem.W PyProof.Rows
set_option maxRecDepth 100000
namespace Fill66

theorem sz20 {n : Nat} (h : n ≤ 2 ^ 20) : n ≤ sizeLine := lit_sizeLine (by omega)

theorem fn_pieces_of : FN 10 2 ["codes"] (fun l : List Int => [dL l]) (fun l => l.length ≤ 2 ^ 20) (fun l => dPs (piecesOf l)) where
  binds := ⟨by decide, (fun vs pm code doc h => match vs, h with | [_], _ => rfl), by decide, rfl, rfl, rfl, by decide⟩
  isDef := rfl
  len := fun _ => rfl
  walk := fun x L a cd l hk hl hw => by
    have len0 : (dI l).length ≤ sizeLine := by rw [dI_length]; exact sz20 hw
    have item : ∀ {j : Nat} {c : Int}, l[j]? = some c → itemAt (dI l) (j : Int) = some (.int c) := fun {j c} h => by
      unfold itemAt; rw [if_pos (Int.natCast_nonneg j), dI_get, Int.toNat_natCast, h]; rfl
    refine EX.cons (EX1.assign (EV.listOwn (AR.nil ⟨sz20 (by decide), fun a0 ha hne => ?_⟩)))
    refine EX.cons (EX1.assign (EV.int ?_))
    refine EX.cons (EX1.whileP (fun n μ own => ∃ j : Nat, μ = ([("codes", dL l), ("pieces", .mut a0), ("at", .int j)] : Mu) ∧ own = [(a0, .lst [])] ∧ j ≤ l.length ∧ n = l.length - j ∧ (l.drop j).dropWhile isBlank = l.dropWhile isBlank)
      (fun μ own => ∃ j : Nat, μ = ([("codes", dL l), ("pieces", .mut a0), ("at", .int j)] : Mu) ∧ own = [(a0, .lst [])] ∧ j ≤ l.length ∧ l.drop j = l.dropWhile isBlank) l.length ⟨0, rfl, rfl, by omega, by omega, rfl⟩ ?_ ?_)
    · rintro n μ own ⟨j, rfl, rfl, h1, rfl, h2⟩
      refine TS.boolop (TA.and (TS.cmp (EV.name (d := .int j) rfl (EV.callB (by decide) (by decide) (AR.cons (EV.name (d := dL l) rfl (AR.nil (CallOk.len_list len0 (OpOk.lt_int ⟨_, rfl, fun b1 => ?_, fun b1 => ⟨nofun, fun _ => ?_⟩⟩)))))))))
      · rw [dI_length] at b1
        have hj : j < l.length := by simp only [decide_eq_true_eq] at b1; omega
        have hc : l[j]? = some l[j] := List.getElem?_eq_getElem hj
        refine TA.and (TS.value (EV.callF fn_is_blank (by omega) (AR.cons (EV.index (EV.name (d := dL l) rfl (EV.name (d := .int j) rfl ⟨dI l, j, .int l[j], .inl rfl, rfl, by omega, item hc, AR.nil ⟨l[j], rfl, trivial, _, rfl, fun b2 => TA.andNil ⟨fun _ => ?_, nofun⟩, fun b2 => ⟨nofun, fun _ => ?_⟩⟩⟩))))))
        · refine EX.cons (EX1.assign (EV.binop (EV.name (d := .int j) rfl (EV.int (OpOk.add_int (EX.nil ⟨l.length - (j + 1), by omega, j + 1, rfl, rfl, by omega, rfl, ?_⟩))))))
          rw [← h2, drop_get hc, List.dropWhile_cons, b2]; rfl
        · exact ⟨j, rfl, rfl, h1, scan_end h2 fun c e => by rw [hc] at e; cases e; exact b2⟩
      · rw [dI_length] at b1
        have hj : l.length ≤ j := by simp only [decide_eq_false_iff_not] at b1; omega
        exact ⟨j, rfl, rfl, h1, scan_end h2 fun c e => by rw [List.getElem?_eq_none hj] at e; cases e⟩
    rintro μ own ⟨j0, rfl, rfl, hj0, hd0⟩
    refine EX.cons (EX1.whileP (fun n μ own => ∃ (i : Nat) (ps : List Piece), μ = ([("codes", dL l), ("pieces", .mut a0), ("at", .int i)] : Mu) ∧ own = [(a0, .lst (ps.map dP))] ∧ i ≤ l.length ∧ n = l.length - i ∧ ps ++ piecesR (l.drop i) = piecesOf l)
      (fun μ own => MuSub ([("pieces", .mut a0)] : Mu) μ ∧ own = [(a0, .lst ((piecesOf l).map dP))]) (l.length - j0) ⟨j0, [], rfl, rfl, hj0, rfl, by rw [hd0]; rfl⟩ ?_ ?_)
    · rintro n μ own ⟨i, ps, rfl, rfl, h1, rfl, h2⟩
      refine TS.cmp (EV.name (d := .int i) rfl (EV.callB (by decide) (by decide) (AR.cons (EV.name (d := dL l) rfl (AR.nil (CallOk.len_list len0 (OpOk.lt_int ⟨_, rfl, fun b1 => ?_, fun b1 => ?_⟩)))))))
      · rw [dI_length] at b1
        have hi : i < l.length := by simp only [decide_eq_true_eq] at b1; omega
        have hne' : l.drop i ≠ [] := fun e => by have := congrArg List.length e; simp at this; omega
        refine EX.cons (EX1.assign (EV.name (d := .int i) rfl ?_))
        refine EX.cons (EX1.whileP (fun n μ own => ∃ j : Nat, μ = ([("codes", dL l), ("pieces", .mut a0), ("at", .int i), ("end", .int j)] : Mu) ∧ own = [(a0, .lst (ps.map dP))] ∧ i ≤ j ∧ j ≤ l.length ∧ n = l.length - j ∧
            (l.drop j).dropWhile (!isBlank ·) = (l.drop i).dropWhile (!isBlank ·) ∧ cut l (some i) (some j) ++ (l.drop j).takeWhile (!isBlank ·) = (l.drop i).takeWhile (!isBlank ·))
          (fun μ own => ∃ j : Nat, μ = ([("codes", dL l), ("pieces", .mut a0), ("at", .int i), ("end", .int j)] : Mu) ∧ own = [(a0, .lst (ps.map dP))] ∧ i ≤ j ∧ j ≤ l.length ∧
            l.drop j = (l.drop i).dropWhile (!isBlank ·) ∧ cut l (some i) (some j) = (l.drop i).takeWhile (!isBlank ·)) (l.length - i) ⟨i, rfl, rfl, Nat.le_refl _, h1, rfl, rfl, by rw [cut_self]; rfl⟩ ?_ ?_)
        · rintro n μ own ⟨j, rfl, rfl, g1, g2, rfl, g3, g4⟩
          have fin : (∀ c, l[j]? = some c → isBlank c = true) → l.drop j = (l.drop i).dropWhile (!isBlank ·) ∧ cut l (some i) (some j) = (l.drop i).takeWhile (!isBlank ·) := fun h => by
            refine ⟨scan_end g3 fun c e => by simp [h c e], ?_⟩
            rw [← g4]
            cases e : l.drop j with
            | nil => simp
            | cons c r =>
              have hc : l[j]? = some c := by have := congrArg (·[0]?) e; simpa using this
              rw [List.takeWhile_cons, h c hc]; simp
          refine TS.boolop (TA.and (TS.cmp (EV.name (d := .int j) rfl (EV.callB (by decide) (by decide) (AR.cons (EV.name (d := dL l) rfl (AR.nil (CallOk.len_list len0 (OpOk.lt_int ⟨_, rfl, fun b1 => ?_, fun b1 => ⟨nofun, fun _ => ?_⟩⟩)))))))))
          · rw [dI_length] at b1
            have hj : j < l.length := by simp only [decide_eq_true_eq] at b1; omega
            have hc : l[j]? = some l[j] := List.getElem?_eq_getElem hj
            refine TA.and (TS.not (TS.value (EV.callF fn_is_blank (by omega) (AR.cons (EV.index (EV.name (d := dL l) rfl (EV.name (d := .int j) rfl ⟨dI l, j, .int l[j], .inl rfl, rfl, by omega, item hc, AR.nil ⟨l[j], rfl, trivial, _, rfl, fun b2 => TA.andNil ⟨fun _ => ?_, nofun⟩, fun b2 => ⟨nofun, fun _ => ?_⟩⟩⟩)))))))
            · have b2' : isBlank l[j] = false := by simpa using b2
              refine EX.cons (EX1.assign (EV.binop (EV.name (d := .int j) rfl (EV.int (OpOk.add_int (EX.nil ⟨l.length - (j + 1), by omega, j + 1, rfl, rfl, by omega, by omega, rfl, ?_, ?_⟩))))))
              · rw [← g3, drop_get hc, List.dropWhile_cons, b2']; rfl
              · rw [← g4, cut_succ g1 hc, drop_get hc, List.takeWhile_cons, b2']; simp
            · have b2' : isBlank l[j] = true := by simpa using b2
              obtain ⟨f1, f2⟩ := fin fun c e => by rw [hc] at e; cases e; exact b2'
              exact ⟨j, rfl, rfl, g1, g2, f1, f2⟩
          · rw [dI_length] at b1
            have hj : l.length ≤ j := by simp only [decide_eq_false_iff_not] at b1; omega
            obtain ⟨f1, f2⟩ := fin fun c e => by rw [List.getElem?_eq_none hj] at e; cases e
            exact ⟨j, rfl, rfl, g1, g2, f1, f2⟩
        rintro μ own ⟨e, rfl, rfl, g1, g2, g3, g4⟩
        refine EX.cons (EX1.assign (EV.name (d := .int e) rfl ?_))
        refine EX.cons (EX1.whileP (fun n μ own => ∃ j : Nat, μ = ([("codes", dL l), ("pieces", .mut a0), ("at", .int i), ("end", .int e), ("after", .int j)] : Mu) ∧ own = [(a0, .lst (ps.map dP))] ∧ e ≤ j ∧ j ≤ l.length ∧ n = l.length - j ∧
            (l.drop j).dropWhile isBlank = (l.drop e).dropWhile isBlank ∧ cut l (some e) (some j) ++ (l.drop j).takeWhile isBlank = (l.drop e).takeWhile isBlank)
          (fun μ own => ∃ j : Nat, μ = ([("codes", dL l), ("pieces", .mut a0), ("at", .int i), ("end", .int e), ("after", .int j)] : Mu) ∧ own = [(a0, .lst (ps.map dP))] ∧ e ≤ j ∧ j ≤ l.length ∧
            l.drop j = (l.drop e).dropWhile isBlank ∧ cut l (some e) (some j) = (l.drop e).takeWhile isBlank) (l.length - e) ⟨e, rfl, rfl, Nat.le_refl _, g2, rfl, rfl, by rw [cut_self]; rfl⟩ ?_ ?_)
        · rintro n μ own ⟨j, rfl, rfl, k1, k2, rfl, k3, k4⟩
          have fin : (∀ c, l[j]? = some c → isBlank c = false) → l.drop j = (l.drop e).dropWhile isBlank ∧ cut l (some e) (some j) = (l.drop e).takeWhile isBlank := fun h => by
            refine ⟨scan_end k3 fun c e => h c e, ?_⟩
            rw [← k4]
            cases e : l.drop j with
            | nil => simp
            | cons c r =>
              have hc : l[j]? = some c := by have := congrArg (·[0]?) e; simpa using this
              rw [List.takeWhile_cons, h c hc]; simp
          refine TS.boolop (TA.and (TS.cmp (EV.name (d := .int j) rfl (EV.callB (by decide) (by decide) (AR.cons (EV.name (d := dL l) rfl (AR.nil (CallOk.len_list len0 (OpOk.lt_int ⟨_, rfl, fun b1 => ?_, fun b1 => ⟨nofun, fun _ => ?_⟩⟩)))))))))
          · rw [dI_length] at b1
            have hj : j < l.length := by simp only [decide_eq_true_eq] at b1; omega
            have hc : l[j]? = some l[j] := List.getElem?_eq_getElem hj
            refine TA.and (TS.value (EV.callF fn_is_blank (by omega) (AR.cons (EV.index (EV.name (d := dL l) rfl (EV.name (d := .int j) rfl ⟨dI l, j, .int l[j], .inl rfl, rfl, by omega, item hc, AR.nil ⟨l[j], rfl, trivial, _, rfl, fun b2 => TA.andNil ⟨fun _ => ?_, nofun⟩, fun b2 => ⟨nofun, fun _ => ?_⟩⟩⟩))))))
            · refine EX.cons (EX1.assign (EV.binop (EV.name (d := .int j) rfl (EV.int (OpOk.add_int (EX.nil ⟨l.length - (j + 1), by omega, j + 1, rfl, rfl, by omega, by omega, rfl, ?_, ?_⟩))))))
              · rw [← k3, drop_get hc, List.dropWhile_cons, b2]; rfl
              · rw [← k4, cut_succ k1 hc, drop_get hc, List.takeWhile_cons, b2]; simp
            · obtain ⟨f1, f2⟩ := fin fun c e => by rw [hc] at e; cases e; exact b2
              exact ⟨j, rfl, rfl, k1, k2, f1, f2⟩
          · rw [dI_length] at b1
            have hj : l.length ≤ j := by simp only [decide_eq_false_iff_not] at b1; omega
            obtain ⟨f1, f2⟩ := fin fun c e => by rw [List.getElem?_eq_none hj] at e; cases e
            exact ⟨j, rfl, rfl, k1, k2, f1, f2⟩
        rintro μ own ⟨f, rfl, rfl, k1, k2, k3, k4⟩
        have cutlen : ∀ (i j : Nat), (cut l (some i) (some j)).length ≤ 2 ^ 20 := fun i j => by
          unfold cut; simp only [Option.elim, id, List.length_drop, List.length_take]; omega
        have hps : ps.length ≤ 2 ^ 20 := by
          have e1 := congrArg List.length h2
          have e2 := piecesR_length (l.dropWhile isBlank)
          have e3 := dropWhile_length_le isBlank l
          simp only [List.length_append, piecesOf] at e1
          omega
        refine EX.cons (EX1.expr (EV.append (EV.name (d := .mut a0) rfl ⟨a0, _, [], rfl, List.Perm.refl _, EV.tuple (AR.cons (EV.slice (EV.name (d := dL l) rfl ⟨dI l, rfl, len0, PT.one (EV.name (d := .int i) rfl ⟨i, rfl, PT.one (EV.name (d := .int e) rfl ⟨e, rfl, ?_⟩)⟩)⟩)))⟩)))
        rw [show cut (dI l) (some i) (some e) = dI (cut l (some i) (some e)) from cut_map _ _ _ _]
        refine AR.cons (EV.callF fn_gap_of (by omega) (AR.cons (EV.slice (EV.name (d := dL l) rfl ⟨dI l, rfl, len0, PT.one (EV.name (d := .int i) rfl ⟨i, rfl, PT.one (EV.name (d := .int e) rfl ⟨e, rfl, ?_⟩)⟩)⟩))))
        rw [show cut (dI l) (some i) (some e) = dI (cut l (some i) (some e)) from cut_map _ _ _ _]
        refine AR.cons (EV.slice (EV.name (d := dL l) rfl ⟨dI l, rfl, len0, PT.one (EV.name (d := .int e) rfl ⟨e, rfl, PT.one (EV.name (d := .int f) rfl ⟨f, rfl, ?_⟩)⟩)⟩))
        rw [show cut (dI l) (some e) (some f) = dI (cut l (some e) (some f)) from cut_map _ _ _ _]
        refine AR.nil ⟨(cut l (some i) (some e), cut l (some e) (some f)), rfl, ⟨cutlen _ _, cutlen _ _⟩, AR.nil ⟨sz20 (by simp), ps.map dP, [], List.Perm.refl _, by rw [List.length_map]; exact sz20 hps, rfl, ?_⟩⟩
        refine EX.cons (EX1.assign (EV.name (d := .int f) rfl ?_))
        have hdec : l.length - f < l.length - i := by
          have e1 := pieces_dec hne'
          rw [← g3, ← k3, List.length_drop, List.length_drop] at e1
          omega
        refine EX.sub (μ' := ([("codes", dL l), ("pieces", .mut a0), ("at", .int f)] : Mu)) ⟨rfl, rfl, rfl, trivial⟩ (EX.nil ⟨l.length - f, hdec, f, ps ++ [(cut l (some i) (some e), gapOf (cut l (some i) (some e)) (cut l (some e) (some f)))], rfl, ?_, k2, rfl, ?_⟩)
        · rw [List.map_append]; rfl
        · rw [← h2, piecesR_cons hne', ← g4, ← g3, ← k4, ← k3]; simp
      · rw [dI_length] at b1
        have hi : l.length ≤ i := by simp only [decide_eq_false_iff_not] at b1; omega
        refine ⟨⟨rfl, trivial⟩, ?_⟩
        rw [List.drop_of_length_le hi, piecesR_nil, List.append_nil] at h2
        rw [h2]
    rintro μ own ⟨hs, rfl⟩
    refine EX.sub hs (EX.freeze (a := a0) (ds := (piecesOf l).map dP) (μ' := ([("pieces", dPs (piecesOf l))] : Mu)) (List.Perm.refl _) hne ⟨.inr ⟨rfl, rfl⟩, trivial⟩ (EX.cons (EX1.ret (EV.name (d := dPs (piecesOf l)) rfl rfl))))

end Fill66
end
noncomputable section
open PySem PySem.W PyProof.Rows
set_option maxRecDepth 100000
namespace Fill66

theorem dPs_get (ps : List Piece) (i : Nat) : (ps.map dP)[i]? = (ps[i]?).map dP := List.getElem?_map
theorem item_nat {ds : List D} {i : Nat} {d : D} (h : ds[i]? = some d) : itemAt ds (i : Int) = some d := by
  unfold itemAt; rw [if_pos (Int.natCast_nonneg i), Int.toNat_natCast, h]
theorem item_int {ds : List D} {i : Int} {j : Nat} {d : D} (hi : i = j) (h : ds[j]? = some d) : itemAt ds i = some d := by subst hi; exact item_nat h

theorem fn_may_break : FN 11 0 ["piece"] (fun p : Piece => [dP p]) (fun p => p.1 ≠ [] ∧ p.1.length ≤ 2 ^ 20) (fun p => .bool (mayBreak p)) where
  binds := ⟨by decide, (fun vs pm code doc h => match vs, h with | [_], _ => rfl), by decide, rfl, rfl, rfl, by decide⟩
  isDef := rfl
  len := fun _ => rfl
  walk := fun x L a cd ⟨w, gp⟩ hk hl ⟨hne, hw⟩ => by
    simp only at hne hw
    have hpos : 0 < w.length := List.length_pos_iff.mpr hne
    have hlast : w[w.length - 1]? = w.getLast? := by rw [List.getLast?_eq_getElem?]
    obtain ⟨c, hc⟩ : ∃ c, w.getLast? = some c := ⟨w.getLast hne, List.getLast?_eq_some_getLast hne⟩
    refine EX.cons (EX1.assignTup (EV.name (d := dP (w, gp)) rfl (AS.tuple ⟨rfl, AS.name ⟨rfl, AS.name ?_⟩⟩ rfl)))
    refine EX.cons (EX1.ret (EV.or2 (EV.cmp (EV.name (d := .int gp) rfl (EV.int (OpOk.gt_int ⟨_, rfl, fun b1 => ?_, fun b1 => ?_⟩))))))
    · refine EV.cmp (EV.index (EV.name (d := dL w) rfl (EV.binop (EV.callB (by decide) (by decide) (AR.cons (EV.name (d := dL w) rfl (AR.nil (CallOk.len_list (by rw [dI_length]; exact sz20 hw) (EV.int (OpOk.sub_int ?_))))))))))
      refine ⟨dI w, _, .int c, .inl rfl, rfl, ?_, ?_, EV.globInt (i := 46) rfl (OpOk.ne_int ?_)⟩
      · rw [dI_length]; omega
      · exact item_int (j := w.length - 1) (by rw [dI_length]; omega) (by rw [dI_get, hlast, hc]; rfl)
      · show FlowD.ret _ = _
        simp only [mayBreak, b1, hc, Bool.false_or]
        by_cases h46 : c = 46
        · subst h46; rfl
        · have e1 : (c != 46) = true := by simpa using h46
          have e2 : (some c != some (46 : Int)) = true := by simpa using h46
          rw [e1, e2]
    · show FlowD.ret _ = _
      simp only [mayBreak, b1, Bool.true_or]

def PiecesOk (ps : List Piece) : Prop := ps.length ≤ 2 ^ 20 ∧ ∀ p ∈ ps, p.1 ≠ [] ∧ p.1.length ≤ 2 ^ 20

theorem fn_row_end : FN 12 1 ["pieces", "first", "width"] (fun q : List Piece × Nat × Int => [dPs q.1, .int q.2.1, .int q.2.2]) (fun q => PiecesOk q.1 ∧ q.2.1 ≤ q.1.length) (fun q => .int ((q.2.1 + rowLen q.2.2 (q.1.drop q.2.1) : Nat) : Int)) where
  binds := ⟨by decide, (fun vs pm code doc h => match vs, h with | [_, _, _], _ => rfl), by decide, rfl, rfl, rfl, by decide⟩
  isDef := rfl
  len := fun _ => rfl
  walk := fun x L a cd ⟨ps, first, width⟩ hk hl ⟨⟨hlen, hok⟩, hfirst⟩ => by
    simp only at hlen hok hfirst
    have len0 : (ps.map dP).length ≤ sizeLine := by rw [List.length_map]; exact sz20 hlen
    have fin : ∀ k : Nat, k - first = rowLen width (ps.drop first) → first ≤ k → FlowD.ret (.int (k : Int)) = FlowD.ret (.int ((first + rowLen width (ps.drop first) : Nat) : Int)) := fun k h1 h2 => by
      rw [← h1, Nat.add_sub_cancel' h2]
    refine EX.cons (EX1.assign (EV.int ?_))
    refine EX.cons (EX1.assign (EV.name (d := .int first) rfl ?_))
    refine EX.cons (EX1.assign (EV.name (d := .int first) rfl ?_))
    refine EX.cons (EX1.while_ (fun n μ own => ∃ (i best : Nat) (used : Int), μ = ([("pieces", dPs ps), ("first", .int first), ("width", .int width), ("used", .int used), ("best", .int best), ("at", .int i)] : Mu) ∧ own = [] ∧ first ≤ best ∧ best ≤ i ∧ i ≤ ps.length ∧ n = ps.length - i ∧
      rowGo width (ps.drop i) used (best - first) (i - first) = rowLen width (ps.drop first)) (ps.length - first) ⟨first, first, 0, rfl, rfl, Nat.le_refl _, Nat.le_refl _, hfirst, rfl, by rw [Nat.sub_self]; rfl⟩ ?_)
    rintro n μ own ⟨i, best, used, rfl, rfl, h1, h2, h3, rfl, h4⟩
    refine TS.cmp (EV.name (d := .int i) rfl (EV.callB (by decide) (by decide) (AR.cons (EV.name (d := dPs ps) rfl (AR.nil (CallOk.len_list len0 (OpOk.lt_int ⟨_, rfl, fun b1 => ?_, fun b1 => ?_⟩)))))))
    · rw [List.length_map] at b1
      have hi : i < ps.length := by simp only [decide_eq_true_eq] at b1; omega
      have hget : ps[i]? = some ps[i] := List.getElem?_eq_getElem hi
      have hp := hok _ (List.getElem_mem hi)
      have hdrop : ps.drop i = ps[i] :: ps.drop (i + 1) := List.drop_eq_getElem_cons hi
      obtain ⟨⟨w, gp⟩, hpe⟩ : ∃ p, p = ps[i] := ⟨_, rfl⟩
      rw [← hpe] at hget hp hdrop
      simp only at hp
      rw [hdrop] at h4
      unfold rowGo at h4
      simp only at h4
      refine EX.cons (EX1.assignTup (EV.index (EV.name (d := dPs ps) rfl (EV.name (d := .int i) rfl ⟨ps.map dP, i, dP (w, gp), .inl rfl, rfl, by omega, item_nat (by rw [dPs_get, hget]; rfl), AS.tuple ⟨rfl, AS.name ⟨rfl, AS.name ?_⟩⟩ rfl⟩))))
      refine EX.cons (EX1.assign (EV.binop (EV.name (d := .int used) rfl (EV.callB (by decide) (by decide) (AR.cons (EV.name (d := dL w) rfl (AR.nil (CallOk.len_list (by rw [dI_length]; exact sz20 hp.2) (OpOk.add_int ?_)))))))))
      rw [dI_length]
      refine EX.cons (EX1.if_ (TS.boolop (TA.and (TS.cmp (EV.name (d := .int (used + w.length)) rfl (EV.name (d := .int width) rfl (OpOk.gt_int ⟨_, rfl, fun b2 => TA.and (TS.cmp (EV.name (d := .int best) rfl (EV.name (d := .int first) rfl (OpOk.gt_int ⟨_, rfl, fun b3 => TA.andNil ⟨fun _ => ?_, nofun⟩, fun b3 => ⟨nofun, fun _ => EX.nil ?_⟩⟩)))), fun b2 => ⟨nofun, fun _ => EX.nil ?_⟩⟩)))))))
      · refine EX.cons (EX1.ret (EV.name (d := .int best) rfl ?_))
        show FlowD.ret _ = _
        have e3 : decide (0 < best - first) = true := by simp only [decide_eq_true_eq] at b3 ⊢; omega
        rw [b2, e3] at h4
        simp only [Bool.and_self, if_true] at h4
        exact fin best h4 h1
      all_goals
        have hcond : (decide (width < used + w.length) && decide (0 < best - first)) = false := by
          first
            | (have e3 : decide (0 < best - first) = false := by simp only [decide_eq_false_iff_not] at b3 ⊢; omega
               rw [e3, Bool.and_false])
            | rw [b2, Bool.false_and]
        rw [hcond] at h4
        simp only [Bool.false_eq_true, if_false] at h4
        refine EX.cons (EX1.assign (EV.binop (EV.name (d := .int i) rfl (EV.int (OpOk.add_int ?_)))))
        refine EX.cons (EX1.if_ (TS.boolop (TA.or (TS.cmp (EV.name (d := .int ((i : Int) + 1)) rfl (EV.callB (by decide) (by decide) (AR.cons (EV.name (d := dPs ps) rfl (AR.nil (CallOk.len_list len0 (OpOk.eq_int ⟨_, rfl, fun b4 => ?_, fun b4 => ⟨fun _ => ?_, nofun⟩⟩)))))))))))
        · rw [List.length_map] at b4
          have hne : (ps.drop (i + 1)).isEmpty = false := by
            rw [List.isEmpty_eq_false_iff]
            intro e
            have := congrArg List.length e
            simp only [List.length_drop, List.length_nil] at this
            have : (i : Int) + 1 = ps.length := by omega
            rw [this] at b4; simp at b4
          refine TA.or (TS.value (EV.callF fn_may_break (by omega) (AR.cons (EV.index (EV.name (d := dPs ps) rfl (EV.binop (EV.name (d := .int ((i : Int) + 1)) rfl (EV.int (OpOk.sub_int ⟨ps.map dP, _, dP (w, gp), .inl rfl, rfl, by omega, item_int (j := i) (by omega) (by rw [dPs_get, hget]; rfl), AR.nil ⟨(w, gp), rfl, hp, _, rfl, fun b5 => TA.orNil ⟨nofun, fun _ => ?_⟩, fun b5 => ⟨fun _ => ?_, nofun⟩⟩⟩)))))))))
          · rw [hne, b5] at h4
            simp only [Bool.or_self, Bool.false_eq_true, if_false] at h4
            refine EX.nil (EX.cons (EX1.assign (EV.binop (EV.name (d := .int (used + w.length)) rfl (EV.name (d := .int gp) rfl (OpOk.add_int ?_))))))
            refine EX.sub (μ' := ([("pieces", dPs ps), ("first", .int first), ("width", .int width), ("used", .int (used + w.length + gp)), ("best", .int best), ("at", .int ((i + 1 : Nat) : Int))] : Mu)) ⟨rfl, rfl, rfl, rfl, rfl, rfl, trivial⟩ (EX.nil ⟨ps.length - (i + 1), by omega, i + 1, best, _, rfl, rfl, h1, by omega, by omega, rfl, ?_⟩)
            rw [← h4]; congr 1; omega
          · rw [b5, Bool.or_true, if_pos rfl] at h4
            refine EX.cons (EX1.assign (EV.name (d := .int ((i : Int) + 1)) rfl ?_))
            refine EX.cons (EX1.if_ (TS.cmp (EV.name (d := .int (used + w.length)) rfl (EV.name (d := .int width) rfl (OpOk.gt_int ⟨_, rfl, fun b6 => ?_, fun b6 => ?_⟩)))))
            · refine EX.cons (EX1.ret (EV.name (d := .int ((i : Int) + 1)) rfl ?_))
              have b6' : width < used + w.length := by simpa using b6
              rw [if_pos b6'] at h4
              exact fin (i + 1) (by rw [← h4]; omega) (by omega)
            · have b6' : ¬ width < used + w.length := by simpa using b6
              rw [if_neg b6'] at h4
              refine EX.nil (EX.nil (EX.cons (EX1.assign (EV.binop (EV.name (d := .int (used + w.length)) rfl (EV.name (d := .int gp) rfl (OpOk.add_int ?_)))))))
              refine EX.sub (μ' := ([("pieces", dPs ps), ("first", .int first), ("width", .int width), ("used", .int (used + w.length + gp)), ("best", .int ((i + 1 : Nat) : Int)), ("at", .int ((i + 1 : Nat) : Int))] : Mu)) ⟨rfl, rfl, rfl, rfl, rfl, rfl, trivial⟩ (EX.nil ⟨ps.length - (i + 1), by omega, i + 1, i + 1, _, rfl, rfl, by omega, by omega, by omega, rfl, ?_⟩)
              rw [← h4]; congr 1 <;> omega
        · rw [List.length_map] at b4
          have b4' : (i : Int) + 1 = ps.length := by simpa using b4
          have hne : (ps.drop (i + 1)).isEmpty = true := by
            rw [List.isEmpty_iff]
            exact List.drop_of_length_le (by omega)
          rw [hne, Bool.true_or, if_pos rfl] at h4
          refine EX.cons (EX1.assign (EV.name (d := .int ((i : Int) + 1)) rfl ?_))
          refine EX.cons (EX1.if_ (TS.cmp (EV.name (d := .int (used + w.length)) rfl (EV.name (d := .int width) rfl (OpOk.gt_int ⟨_, rfl, fun b6 => ?_, fun b6 => ?_⟩)))))
          · refine EX.cons (EX1.ret (EV.name (d := .int ((i : Int) + 1)) rfl ?_))
            have b6' : width < used + w.length := by simpa using b6
            rw [if_pos b6'] at h4
            exact fin (i + 1) (by rw [← h4]; omega) (by omega)
          · have b6' : ¬ width < used + w.length := by simpa using b6
            rw [if_neg b6'] at h4
            refine EX.nil (EX.nil (EX.cons (EX1.assign (EV.binop (EV.name (d := .int (used + w.length)) rfl (EV.name (d := .int gp) rfl (OpOk.add_int ?_)))))))
            refine EX.sub (μ' := ([("pieces", dPs ps), ("first", .int first), ("width", .int width), ("used", .int (used + w.length + gp)), ("best", .int ((i + 1 : Nat) : Int)), ("at", .int ((i + 1 : Nat) : Int))] : Mu)) ⟨rfl, rfl, rfl, rfl, rfl, rfl, trivial⟩ (EX.nil ⟨ps.length - (i + 1), by omega, i + 1, i + 1, _, rfl, rfl, by omega, by omega, by omega, rfl, ?_⟩)
            rw [← h4]; congr 1 <;> omega
    · rw [List.length_map] at b1
      have hi : i = ps.length := by simp only [decide_eq_false_iff_not] at b1; omega
      refine EX.cons (EX1.ret (EV.callB (by decide) (by decide) (AR.cons (EV.name (d := dPs ps) rfl (AR.nil (CallOk.len_list len0 ?_))))))
      rw [List.drop_of_length_le (by omega)] at h4
      simp only [rowGo] at h4
      rw [List.length_map]
      exact fin ps.length (by rw [← h4]; omega) hfirst

end Fill66
end
noncomputable section
open PySem PySem.W PyProof.Rows
set_option maxRecDepth 100000
namespace Fill66

theorem fn_rows_of : FN 13 2 ["pieces", "first_width", "width"] (fun q : List Piece × Int × Int => [dPs q.1, .int q.2.1, .int q.2.2]) (fun q => PiecesOk q.1) (fun q => .list ((rowsR q.2.1 q.2.2 q.1).map dPs)) where
  binds := ⟨by decide, (fun vs pm code doc h => match vs, h with | [_, _, _], _ => rfl), by decide, rfl, rfl, rfl, by decide⟩
  isDef := rfl
  len := fun _ => rfl
  walk := fun x L a cd ⟨ps, fw, width⟩ hk hl hok => by
    simp only at hok
    have hlen := hok.1
    have len0 : (ps.map dP).length ≤ sizeLine := by rw [List.length_map]; exact sz20 hlen
    refine EX.cons (EX1.assign (EV.listOwn (AR.nil ⟨sz20 (by decide), fun a0 ha hne => ?_⟩)))
    refine EX.cons (EX1.assign (EV.int ?_))
    refine EX.cons (EX1.whileP (fun n μ own => ∃ (i : Nat) (rs : List (List Piece)), μ = ([("pieces", dPs ps), ("first_width", .int fw), ("width", .int width), ("rows", .mut a0), ("at", .int i)] : Mu) ∧ own = [(a0, .lst (rs.map dPs))] ∧ i ≤ ps.length ∧ rs.length ≤ i ∧ n = ps.length - i ∧
        rs ++ rowsR (if i = 0 then fw else width) width (ps.drop i) = rowsR fw width ps)
      (fun μ own => MuSub ([("rows", .mut a0)] : Mu) μ ∧ own = [(a0, .lst ((rowsR fw width ps).map dPs))]) ps.length ⟨0, [], rfl, rfl, Nat.zero_le _, Nat.zero_le _, rfl, rfl⟩ ?_ ?_)
    · rintro n μ own ⟨i, rs, rfl, rfl, h1, h2, rfl, h3⟩
      refine TS.cmp (EV.name (d := .int i) rfl (EV.callB (by decide) (by decide) (AR.cons (EV.name (d := dPs ps) rfl (AR.nil (CallOk.len_list len0 (OpOk.lt_int ⟨_, rfl, fun b1 => ?_, fun b1 => ?_⟩)))))))
      · rw [List.length_map] at b1
        have hi : i < ps.length := by simp only [decide_eq_true_eq] at b1; omega
        have hne' : ps.drop i ≠ [] := fun e => by have := congrArg List.length e; simp at this; omega
        have hb := fun w => rowLen_bounds w (ps.drop i) hne'
        have step : ∀ e : Nat, i + rowLen (if i = 0 then fw else width) (ps.drop i) = e → e ≤ ps.length ∧ i < e ∧ (rs ++ [cut ps (some i) (some e)]) ++ rowsR (if e = 0 then fw else width) width (ps.drop e) = rowsR fw width ps := fun e he => by
          have hbb := hb (if i = 0 then fw else width)
          rw [List.length_drop] at hbb
          refine ⟨by omega, by omega, ?_⟩
          rw [← h3, rowsR_cons _ _ hne', if_neg (by omega : ¬ e = 0), List.append_assoc]
          congr 1
          have c1 : cut ps (some i) (some e) = (ps.drop i).take (rowLen (if i = 0 then fw else width) (ps.drop i)) := by
            unfold cut
            simp only [Option.elim, id]
            rw [List.drop_take]; congr 1; omega
          rw [c1, List.drop_drop, he]
          rfl
        refine EX.cons (EX1.assign (EV.callF fn_row_end (by omega) (AR.cons (EV.name (d := dPs ps) rfl (AR.cons (EV.name (d := .int i) rfl (AR.cons (EV.ifexp (TS.cmp (EV.name (d := .int i) rfl (EV.int (OpOk.eq_int ⟨_, rfl, fun b2 => ?_, fun b2 => ?_⟩))))))))))))
        all_goals
          first
            | (have hi0 : i = 0 := by simp at b2; omega)
            | (have hi0 : ¬ i = 0 := by simp at b2; omega)
          first
            | rw [if_pos hi0] at step
            | rw [if_neg hi0] at step
          first
            | refine EV.name (d := .int fw) rfl (AR.nil ⟨(ps, i, fw), rfl, ⟨hok, h1⟩, ?_⟩)
            | refine EV.name (d := .int width) rfl (AR.nil ⟨(ps, i, width), rfl, ⟨hok, h1⟩, ?_⟩)
          obtain ⟨s1, s2, s3⟩ := step _ rfl
          refine EX.cons (EX1.expr (EV.append (EV.name (d := .mut a0) rfl ⟨a0, _, [], rfl, List.Perm.refl _, EV.slice (EV.name (d := dPs ps) rfl ⟨ps.map dP, rfl, len0, PT.one (EV.name (d := .int i) rfl ⟨i, rfl, PT.one (EV.name (d := .int _) rfl ⟨_, rfl, rs.map dPs, [], List.Perm.refl _, by rw [List.length_map]; exact sz20 (by omega), rfl, ?_⟩)⟩)⟩)⟩)))
          rw [cut_map]
          refine EX.cons (EX1.assign (EV.name (d := .int _) rfl ?_))
          refine EX.sub (μ' := ([("pieces", dPs ps), ("first_width", .int fw), ("width", .int width), ("rows", .mut a0), ("at", .int _)] : Mu)) ⟨rfl, rfl, rfl, rfl, rfl, trivial⟩ (EX.nil ⟨_, Nat.sub_lt_sub_left hi s2, _, rs ++ [cut ps (some i) (some _)], rfl, ?_, s1, ?_, rfl, s3⟩)
          · rw [List.map_append]; rfl
          · rw [List.length_append, List.length_singleton]; exact Nat.le_trans (Nat.succ_le_succ h2) s2
      · rw [List.length_map] at b1
        have hi : ps.length ≤ i := by simp only [decide_eq_false_iff_not] at b1; omega
        refine ⟨⟨rfl, trivial⟩, ?_⟩
        rw [List.drop_of_length_le hi, rowsR_nil, List.append_nil] at h3
        rw [h3]
    rintro μ own ⟨hs, rfl⟩
    exact EX.sub hs (EX.freeze (a := a0) (ds := (rowsR fw width ps).map dPs) (μ' := ([("rows", .list ((rowsR fw width ps).map dPs))] : Mu)) (List.Perm.refl _) hne ⟨.inr ⟨rfl, rfl⟩, trivial⟩ (EX.cons (EX1.ret (EV.name (d := .list ((rowsR fw width ps).map dPs)) rfl rfl))))

end Fill66
end
noncomputable section
open PySem PySem.W PyProof.Rows
set_option maxRecDepth 100000
namespace Fill66

def gapsOf (row : List Piece) : List D := row.map fun p => .int p.2

theorem fn_own_gaps : FN 16 0 ["row"] (fun row : List Piece => [dPs row]) (fun row => row.length ≤ 2 ^ 20) (fun row => .list (gapsOf row)) where
  binds := ⟨by decide, (fun vs pm code doc h => match vs, h with | [_], _ => rfl), by decide, rfl, rfl, rfl, by decide⟩
  isDef := rfl
  len := fun _ => rfl
  walk := fun x L a cd row hk hl hlen => by
    refine EX.cons (EX1.ret (EV.comp (d₀ := .none) (f := fun d => match d with | .tup [_, g] => g | _ => .none) (EV.name (d := dPs row) rfl ⟨row.map dP, rfl, by rw [List.length_map]; exact sz20 hlen, fun x' L' μ e hk' he => ?_, ?_⟩)))
    · obtain ⟨p, _, rfl⟩ := List.mem_map.mp he
      refine AS.tuple ⟨rfl, AS.name ⟨rfl, AS.name ?_⟩⟩ rfl
      exact EV.name (d := .int p.2) (by rw [Mu.get_set]; rfl) ⟨rfl, rfl⟩
    · show FlowD.ret _ = _
      rw [List.map_map]; rfl

theorem rowCodes_cons (p : Piece) {r : List Piece} (h : r ≠ []) : rowCodes (p :: r) = p.1 ++ List.replicate p.2.toNat 32 ++ rowCodes r := by
  cases r with
  | nil => exact absurd rfl h
  | cons q r => rfl

def GapsOk (row : List Piece) : Prop := ∀ p ∈ row, 0 ≤ p.2 ∧ p.2 ≤ 2 ^ 20

theorem fn_row_codes : FN 15 0 ["row", "gaps"] (fun row : List Piece => [dPs row, .list (gapsOf row)]) (fun row => row.length ≤ 2 ^ 20 ∧ GapsOk row ∧ (rowCodes row).length ≤ 2 ^ 20) (fun row => dL (rowCodes row)) where
  binds := ⟨by decide, (fun vs pm code doc h => match vs, h with | [_, _], _ => rfl), by decide, rfl, rfl, rfl, by decide⟩
  isDef := rfl
  len := fun _ => rfl
  walk := fun x L a cd row hk hl ⟨hlen, hgap, hcod⟩ => by
    have len0 : (row.map dP).length ≤ sizeLine := by rw [List.length_map]; exact sz20 hlen
    refine EX.cons (EX1.assign (EV.listOwn (AR.nil ⟨sz20 (by decide), fun a0 ha hne => ?_⟩)))
    refine EX.cons (EX1.for_ (IT.range (EV.callB (by decide) (by decide) (AR.cons (EV.name (d := dPs row) rfl (AR.nil (CallOk.len_list len0 ⟨row.length, by rw [List.length_map], by omega, ?_⟩)))))))
    refine ⟨fun k μ own => ∃ pre : List Int, MuSub ([("row", dPs row), ("gaps", .list (gapsOf row)), ("codes", .mut a0)] : Mu) μ ∧ own = [(a0, .lst (dI pre))] ∧ pre ++ rowCodes (row.drop k) = rowCodes row, ⟨[], ⟨rfl, rfl, rfl, trivial⟩, rfl, rfl⟩, ?_, ?_⟩
    · rintro k μ own hk' ⟨pre, hs, rfl, h1⟩
      have hget : row[k]? = some row[k] := List.getElem?_eq_getElem hk'
      have hg := hgap _ (List.getElem_mem hk')
      have hdrop : row.drop k = row[k] :: row.drop (k + 1) := List.drop_eq_getElem_cons hk'
      obtain ⟨⟨w, gp⟩, hpe⟩ : ∃ p, p = row[k] := ⟨_, rfl⟩
      rw [← hpe] at hget hg hdrop
      simp only at hg
      rw [hdrop] at h1
      have hl1 := congrArg List.length h1
      refine AS.name (EX.sub (μ' := ([("row", dPs row), ("gaps", .list (gapsOf row)), ("codes", .mut a0), ("place", .int k)] : Mu)) ⟨by rw [Mu.get_set]; exact hs.1, by rw [Mu.get_set]; exact hs.2.1, by rw [Mu.get_set]; exact hs.2.2.1, by rw [Mu.get_set]; rfl, trivial⟩ ?_)
      refine EX.cons (EX1.expr (EV.extend (EV.name (d := .mut a0) rfl ⟨a0, _, [], rfl, List.Perm.refl _, EV.index (EV.index (EV.name (d := dPs row) rfl (EV.name (d := .int k) rfl ⟨row.map dP, k, dP (w, gp), .inl rfl, rfl, by omega, item_nat (by rw [dPs_get, hget]; rfl), EV.int ⟨[dL w, .int gp], 0, dL w, .inr rfl, rfl, by omega, rfl, dI pre, dI w, [], rfl, List.Perm.refl _, ?_, rfl, ?_⟩⟩)))⟩)))
      · rw [dI_length, dI_length]
        refine sz20 (Nat.le_trans ?_ hcod)
        rw [← hl1]
        cases row.drop (k + 1) with
        | nil => simp [rowCodes]
        | cons q r => simp only [rowCodes, List.length_append]; omega
      refine EX.cons (EX1.if_ (TS.cmp (EV.name (d := .int k) rfl (EV.binop (EV.callB (by decide) (by decide) (AR.cons (EV.name (d := dPs row) rfl (AR.nil (CallOk.len_list len0 (EV.int (OpOk.sub_int (OpOk.lt_int ⟨_, rfl, fun b1 => ?_, fun b1 => ?_⟩))))))))))))
      · rw [List.length_map] at b1
        have hk2 : k + 1 < row.length := by simp only [decide_eq_true_eq] at b1; omega
        have hne2 : row.drop (k + 1) ≠ [] := fun e => by have := congrArg List.length e; simp at this; omega
        rw [rowCodes_cons _ hne2] at h1 hl1
        simp only at h1 hl1
        refine EX.cons (EX1.expr (EV.extend (EV.name (d := .mut a0) rfl ⟨a0, _, [], rfl, List.Perm.refl _, EV.binop (EV.list (AR.cons (EV.globInt (i := 32) rfl (AR.nil ⟨sz20 (by decide), EV.index (EV.name (d := .list (gapsOf row)) rfl (EV.name (d := .int k) rfl ⟨gapsOf row, k, .int gp, .inl rfl, rfl, by omega, item_nat ?_, OpOk.mul_one (c := 32) (by omega) (by omega) ⟨dI (pre ++ w), dI (List.replicate gp.toNat 32), [], rfl, ?_, ?_, rfl, ?_⟩⟩))⟩))))⟩)))
        · show (gapsOf row)[k]? = _
          rw [gapsOf, List.getElem?_map, hget]; rfl
        · rw [dI_append]
        · rw [dI_length, dI_length]
          refine sz20 (Nat.le_trans ?_ hcod)
          rw [← hl1]
          simp only [List.length_append]; omega
        · rw [← dI_append]
          refine EX.nil (EX.nil ⟨pre ++ w ++ List.replicate gp.toNat 32, ⟨rfl, rfl, rfl, trivial⟩, rfl, ?_⟩)
          rw [← h1]; simp
      · rw [List.length_map] at b1
        have hk2 : row.length ≤ k + 1 := by simp only [decide_eq_false_iff_not] at b1; omega
        rw [List.drop_of_length_le hk2] at h1
        rw [← dI_append]
        refine EX.nil (EX.nil ⟨pre ++ w, ⟨rfl, rfl, rfl, trivial⟩, rfl, ?_⟩)
        rw [← h1, List.drop_of_length_le hk2]; simp [rowCodes]
    · rintro μ own ⟨pre, hs, rfl, h1⟩
      rw [List.drop_of_length_le (Nat.le_refl _)] at h1
      simp only [rowCodes, List.append_nil] at h1
      subst h1
      exact EX.sub (μ' := ([("codes", .mut a0)] : Mu)) ⟨hs.2.2.1, trivial⟩ (EX.freeze (a := a0) (ds := dI (rowCodes row)) (μ' := ([("codes", dL (rowCodes row))] : Mu)) (List.Perm.refl _) hne ⟨.inr ⟨rfl, rfl⟩, trivial⟩ (EX.cons (EX1.ret (EV.name (d := dL (rowCodes row)) rfl rfl))))

theorem fn_placed_row : FN 18 1 ["row", "width", "way", "is_last"] (fun q : List Piece × Int × Bool => [dPs q.1, .int q.2.1, .str "left", .bool q.2.2]) (fun q => q.1.length ≤ 2 ^ 20 ∧ GapsOk q.1 ∧ (rowCodes q.1).length ≤ 2 ^ 20) (fun q => dL (rowCodes q.1)) where
  binds := ⟨by decide, (fun vs pm code doc h => match vs, h with | [_, _, _, _], _ => rfl), by decide, rfl, rfl, rfl, by decide⟩
  isDef := rfl
  len := fun _ => rfl
  walk := fun x L a cd ⟨row, width, last⟩ hk hl ⟨hlen, hgap, hcod⟩ => by
    simp only at hlen hgap hcod
    refine EX.cons (EX1.assign (EV.callF fn_row_codes (by omega) (AR.cons (EV.name (d := dPs row) rfl (AR.cons (EV.callF fn_own_gaps (by omega) (AR.cons (EV.name (d := dPs row) rfl (AR.nil ⟨row, rfl, hlen, AR.nil ⟨row, rfl, ⟨hlen, hgap, hcod⟩, ?_⟩⟩)))))))))
    refine EX.cons (EX1.assign (EV.binop (EV.name (d := .int width) rfl (EV.callB (by decide) (by decide) (AR.cons (EV.name (d := dL (rowCodes row)) rfl (AR.nil (CallOk.len_list (by rw [dI_length]; exact sz20 hcod) (OpOk.sub_int ?_)))))))))
    rw [dI_length]
    refine EX.cons (EX1.if_ (TS.boolop (TA.and (TS.cmp (EV.name (d := .str "left") rfl (EV.str (OpOk.eq_str ⟨_, rfl, fun b1 => absurd b1 (by decide), fun b1 => ⟨nofun, fun _ => EX.nil ?_⟩⟩)))))))
    refine EX.cons (EX1.if_ (TS.boolop (TA.or (TS.cmp (EV.name (d := .int (width - (rowCodes row).length)) rfl (EV.int (OpOk.le_int ⟨_, rfl, fun b2 => ?_, fun b2 => ⟨fun _ => ?_, nofun⟩⟩)))))))
    · refine TA.or (TS.cmp (EV.name (d := .str "left") rfl (EV.str (OpOk.eq_str ⟨_, rfl, fun b3 => absurd b3 (by decide), fun b3 => ⟨fun _ => ?_, nofun⟩⟩))))
      exact EX.cons (EX1.ret (EV.name (d := dL (rowCodes row)) rfl rfl))
    · exact EX.cons (EX1.ret (EV.name (d := dL (rowCodes row)) rfl rfl))

end Fill66
end
noncomputable section
open PySem PySem.W PyProof.Rows
set_option maxRecDepth 100000
namespace Fill66

theorem sz20' {n : Nat} (h : n ≤ 2 ^ 20) : n ≤ sizeLine := lit_sizeLine (by omega)
theorem item_nat' {ds : List D} {i : Nat} {d : D} (h : ds[i]? = some d) : itemAt ds (i : Int) = some d := by
  unfold itemAt; rw [if_pos (Int.natCast_nonneg i), Int.toNat_natCast, h]
theorem dI_item {l : List Int} {j : Nat} {c : Int} (h : l[j]? = some c) : itemAt (dI l) (j : Int) = some (.int c) := item_nat' (by rw [dI_get, h]; rfl)
theorem dR_item {rs : List (List Int)} {j : Nat} {r : List Int} (h : rs[j]? = some r) : itemAt (rs.map dL) (j : Int) = some (dL r) := item_nat' (by rw [List.getElem?_map, h]; rfl)

theorem fn_column_behind : FN 21 0 ["column", "code", "tab"] (fun q : Int × Int => [.int q.1, .int q.2, .int 8]) (fun q => q.2 ≠ 9) (fun q => .int (q.1 + 1)) where
  binds := ⟨by decide, (fun vs pm code doc h => match vs, h with | [_, _, _], _ => rfl), by decide, rfl, rfl, rfl, by decide⟩
  isDef := rfl
  len := fun _ => rfl
  walk := fun x L a cd ⟨col, code⟩ hk hl h9 => by
    simp only at h9
    refine EX.cons (EX1.ret (EV.ifexp (TS.cmp (EV.name (d := .int code) rfl (EV.globInt (i := 9) rfl (OpOk.eq_int ⟨_, rfl, fun b => absurd (by simpa using b) h9, fun b => ?_⟩))))))
    exact EV.binop (EV.name (d := .int col) rfl (EV.int (OpOk.add_int rfl)))

theorem fn_column_at : FN 22 1 ["row", "place", "tab"] (fun row : List Int => [dL row, .int row.length, .int 8]) (fun row => row.length ≤ 2 ^ 20 ∧ (9 : Int) ∉ row) (fun row => .int row.length) where
  binds := ⟨by decide, (fun vs pm code doc h => match vs, h with | [_, _, _], _ => rfl), by decide, rfl, rfl, rfl, by decide⟩
  isDef := rfl
  len := fun _ => rfl
  walk := fun x L a cd row hk hl ⟨hlen, h9⟩ => by
    refine EX.cons (EX1.assign (EV.int ?_))
    refine EX.cons (EX1.forL (EV.slice (EV.name (d := dL row) rfl ⟨dI row, rfl, by rw [dI_length]; exact sz20' hlen, PT.zero (PT.one (EV.name (d := .int row.length) rfl ⟨row.length, rfl, _, rfl, ?_⟩))⟩)))
    rw [show cut (dI row) none (some row.length) = dI row by unfold cut; simp only [Option.elim, List.drop_zero]; rw [List.take_of_length_le]; rw [dI_length]; exact Nat.le_refl _]
    refine ⟨fun k μ own => MuSub ([("row", dL row), ("tab", .int 8), ("column", .int k)] : Mu) μ, ⟨rfl, rfl, rfl, trivial⟩, ?_, ?_⟩
    · intro k e μ own he hs
      rw [dI_get] at he
      obtain ⟨c, hc, rfl⟩ := Option.map_eq_some_iff.mp he
      refine AS.name (EX.sub (μ' := ([("row", dL row), ("tab", .int 8), ("column", .int k), ("code", .int c)] : Mu)) ⟨by rw [Mu.get_set]; exact hs.1, by rw [Mu.get_set]; exact hs.2.1, by rw [Mu.get_set]; exact hs.2.2.1, by rw [Mu.get_set]; rfl, trivial⟩ ?_)
      refine EX.cons (EX1.assign (EV.callF fn_column_behind (by omega) (AR.cons (EV.name (d := .int k) rfl (AR.cons (EV.name (d := .int c) rfl (AR.cons (EV.name (d := .int 8) rfl (AR.nil ⟨(k, c), rfl, fun e => h9 (e ▸ List.mem_of_getElem? hc), ?_⟩)))))))))
      exact EX.nil ⟨rfl, rfl, rfl, trivial⟩
    · intro μ own hs
      rw [dI_length] at hs
      exact EX.sub hs (EX.cons (EX1.ret (EV.name (d := .int row.length) rfl rfl)))

theorem fn_row_columns : FN 23 2 ["row", "tab"] (fun row : List Int => [dL row, .int 8]) (fun row => row.length ≤ 2 ^ 20 ∧ (9 : Int) ∉ row) (fun row => .int row.length) where
  binds := ⟨by decide, (fun vs pm code doc h => match vs, h with | [_, _], _ => rfl), by decide, rfl, rfl, rfl, by decide⟩
  isDef := rfl
  len := fun _ => rfl
  walk := fun x L a cd row hk hl h => by
    refine EX.cons (EX1.ret (EV.callF fn_column_at (by omega) (AR.cons (EV.name (d := dL row) rfl (AR.cons (EV.callB (by decide) (by decide) (AR.cons (EV.name (d := dL row) rfl (AR.nil (CallOk.len_list (by rw [dI_length]; exact sz20' h.1) ?_))))))))))
    rw [dI_length]
    exact AR.cons (EV.name (d := .int 8) rfl (AR.nil ⟨row, rfl, h, rfl⟩))

theorem takeWhile_drop {l : List Int} {p : Int → Bool} {j : Nat} (h : l.take j ++ (l.drop j).takeWhile p = l.takeWhile p) (he : ∀ c, l[j]? = some c → p c = false) : l.take j = l.takeWhile p := by
  rw [← h]
  cases e : l.drop j with
  | nil => simp
  | cons c r =>
    have hc : l[j]? = some c := by have := congrArg (·[0]?) e; simpa using this
    rw [List.takeWhile_cons, he c hc]; simp

theorem fn_lead_of : FN 31 0 ["row", "filling"] (fun q : List Int × Int => [dL q.1, .fill q.2]) (fun q => q.1.length ≤ 2 ^ 20) (fun q => dL (leadOf q.1)) where
  binds := ⟨by decide, (fun vs pm code doc h => match vs, h with | [_, _], _ => rfl), by decide, rfl, rfl, rfl, by decide⟩
  isDef := rfl
  len := fun _ => rfl
  walk := fun x L a cd ⟨row, col⟩ hk hl hlen => by
    simp only at hlen
    have len0 : (dI row).length ≤ sizeLine := by rw [dI_length]; exact sz20' hlen
    refine EX.cons (EX1.assign (EV.int ?_))
    refine EX.cons (EX1.whileP (fun n μ own => ∃ j : Nat, μ = ([("row", dL row), ("filling", .fill col), ("at", .int j)] : Mu) ∧ j ≤ row.length ∧ n = row.length - j ∧ row.take j ++ (row.drop j).takeWhile isLead = row.takeWhile isLead)
      (fun μ own => ∃ j : Nat, μ = ([("row", dL row), ("filling", .fill col), ("at", .int j)] : Mu) ∧ j ≤ row.length ∧ row.take j = leadOf row) row.length ⟨0, rfl, by omega, by omega, rfl⟩ ?_ ?_)
    · rintro n μ own ⟨j, rfl, h1, rfl, h2⟩
      refine TS.boolop (TA.and (TS.cmp (EV.name (d := .int j) rfl (EV.callB (by decide) (by decide) (AR.cons (EV.name (d := dL row) rfl (AR.nil (CallOk.len_list len0 (OpOk.lt_int ⟨_, rfl, fun b1 => ?_, fun b1 => ⟨nofun, fun _ => ?_⟩⟩)))))))))
      · rw [dI_length] at b1
        have hj : j < row.length := by simp only [decide_eq_true_eq] at b1; omega
        have hc : row[j]? = some row[j] := List.getElem?_eq_getElem hj
        obtain ⟨c, hce⟩ : ∃ c, c = row[j] := ⟨_, rfl⟩
        rw [← hce] at hc
        have go : isLead c = true → EX x (envOf (dr 31).name (dr 31).scope L a cd) ([("row", dL row), ("filling", .fill col), ("at", .int j)] : Mu) own ((match (dr 31).body with | [_, .While _ b _ _, _] => b | _ => [])) fun fd μ' o' => match fd with
            | .next | .cont => ∃ m, m < row.length - j ∧ ∃ j : Nat, μ' = ([("row", dL row), ("filling", .fill col), ("at", .int j)] : Mu) ∧ j ≤ row.length ∧ m = row.length - j ∧ row.take j ++ (row.drop j).takeWhile isLead = row.takeWhile isLead
            | _ => False := fun hb => by
          refine EX.cons (EX1.assign (EV.binop (EV.name (d := .int j) rfl (EV.int (OpOk.add_int (EX.nil ⟨row.length - (j + 1), by omega, j + 1, rfl, by omega, rfl, ?_⟩))))))
          rw [← h2, drop_get hc, List.takeWhile_cons, hb, List.take_add_one, hc]; simp
        have stop : isLead c = false → row.take j = leadOf row := fun hb => takeWhile_drop h2 fun c' e => by rw [hc] at e; cases e; exact hb
        have item : itemAt (dI row) (j : Int) = some (.int c) := dI_item hc
        have go' := fun hb => (go hb).mono (P' := fun fd μ' o' => match fd with
            | .next | .cont => ∃ m, m < row.length - j ∧ ∃ j : Nat, μ' = ([("row", dL row), ("filling", .fill col), ("at", .int j)] : Mu) ∧ j ≤ row.length ∧ m = row.length - j ∧ row.take j ++ (row.drop j).takeWhile isLead = row.takeWhile isLead
            | .brk => ∃ j : Nat, μ' = ([("row", dL row), ("filling", .fill col), ("at", .int j)] : Mu) ∧ j ≤ row.length ∧ row.take j = leadOf row
            | .ret d => NextOr x (envOf (dr 31).name (dr 31).scope L a cd) [] (fun fd _ _ => fd = .ret (dL (leadOf row))) (.ret d) μ' o') fun fd μ o h => match fd, h with
              | .next, h => h
              | .cont, h => h
        refine TA.and (TS.boolop (TA.or (TS.cmp (EV.index (EV.name (d := dL row) rfl (EV.name (d := .int j) rfl ⟨dI row, j, .int c, .inl rfl, rfl, by omega, item, EV.globInt (i := 32) rfl (OpOk.eq_int ⟨_, rfl, fun b2 => ?_, fun b2 => ⟨fun _ => TA.andNil ⟨fun _ => ?_, nofun⟩, nofun⟩⟩)⟩))))))
        · refine TA.or (TS.cmp (EV.index (EV.name (d := dL row) rfl (EV.name (d := .int j) rfl ⟨dI row, j, .int c, .inl rfl, rfl, by omega, item, EV.globInt (i := 9) rfl (OpOk.eq_int ⟨_, rfl, fun b3 => ?_, fun b3 => ⟨fun _ => TA.andNil ⟨fun _ => ?_, nofun⟩, nofun⟩⟩)⟩))))
          · refine TA.or (TS.cmp (EV.index (EV.name (d := dL row) rfl (EV.name (d := .int j) rfl ⟨dI row, j, .int c, .inl rfl, rfl, by omega, item, EV.fill_leads (EV.name (d := .fill col) rfl ⟨col, rfl, OpOk.in_list ⟨_, rfl, fun b4 => TA.orNil ⟨nofun, fun _ => ⟨nofun, fun _ => ?_⟩⟩, fun b4 => ⟨fun _ => TA.andNil ⟨fun _ => ?_, nofun⟩, nofun⟩⟩⟩)⟩))))
            · refine ⟨j, rfl, h1, stop ?_⟩
              have b4' : (c == 62) = false := by simpa using b4
              simp only [isLead, b2, b3, b4', Bool.or_self]
            · have b4' : (c == 62) = true := by simpa using b4
              exact go' (by simp only [isLead, b4', Bool.or_true])
          · exact go' (by simp only [isLead, b3, Bool.or_true, Bool.true_or])
        · exact go' (by simp only [isLead, b2, Bool.true_or])
      · rw [dI_length] at b1
        have hj : row.length ≤ j := by simp only [decide_eq_false_iff_not] at b1; omega
        exact ⟨j, rfl, h1, takeWhile_drop h2 fun c e => by rw [List.getElem?_eq_none hj] at e; cases e⟩
    rintro μ own ⟨j, rfl, h1, h2⟩
    refine EX.cons (EX1.ret (EV.slice (EV.name (d := dL row) rfl ⟨dI row, rfl, len0, PT.zero (PT.one (EV.name (d := .int j) rfl ⟨j, rfl, ?_⟩))⟩)))
    show FlowD.ret _ = _
    rw [show cut (dI row) none (some j) = dI (row.take j) by unfold cut; simp [dI_take], h2]
    rfl

end Fill66
end
noncomputable section
open PySem PySem.W PyProof.Rows
set_option maxRecDepth 100000
namespace Fill66

theorem commonStart_nil_r (l : List Int) : commonStart l [] = [] := by cases l <;> rfl

theorem fn_common_start : FN 32 0 ["one", "other"] (fun q : List Int × List Int => [dL q.1, dL q.2]) (fun q => q.1.length ≤ 2 ^ 20 ∧ q.2.length ≤ 2 ^ 20) (fun q => dL (commonStart q.1 q.2)) where
  binds := ⟨by decide, (fun vs pm code doc h => match vs, h with | [_, _], _ => rfl), by decide, rfl, rfl, rfl, by decide⟩
  isDef := rfl
  len := fun _ => rfl
  walk := fun x L a cd ⟨u, v⟩ hk hl ⟨hu, hv⟩ => by
    simp only at hu hv
    have lu : (dI u).length ≤ sizeLine := by rw [dI_length]; exact sz20' hu
    have lv : (dI v).length ≤ sizeLine := by rw [dI_length]; exact sz20' hv
    refine EX.cons (EX1.assign (EV.int ?_))
    refine EX.cons (EX1.whileP (fun n μ own => ∃ j : Nat, μ = ([("one", dL u), ("other", dL v), ("at", .int j)] : Mu) ∧ j ≤ u.length ∧ n = u.length - j ∧ u.take j ++ commonStart (u.drop j) (v.drop j) = commonStart u v)
      (fun μ own => ∃ j : Nat, μ = ([("one", dL u), ("other", dL v), ("at", .int j)] : Mu) ∧ u.take j = commonStart u v) u.length ⟨0, rfl, by omega, by omega, rfl⟩ ?_ ?_)
    · rintro n μ own ⟨j, rfl, h1, rfl, h2⟩
      refine TS.boolop (TA.and (TS.cmp (EV.name (d := .int j) rfl (EV.callB (by decide) (by decide) (AR.cons (EV.name (d := dL u) rfl (AR.nil (CallOk.len_list lu (OpOk.lt_int ⟨_, rfl, fun b1 => ?_, fun b1 => ⟨nofun, fun _ => ?_⟩⟩)))))))))
      · rw [dI_length] at b1
        have hj : j < u.length := by simp only [decide_eq_true_eq] at b1; omega
        have hc : u[j]? = some u[j] := List.getElem?_eq_getElem hj
        refine TA.and (TS.cmp (EV.name (d := .int j) rfl (EV.callB (by decide) (by decide) (AR.cons (EV.name (d := dL v) rfl (AR.nil (CallOk.len_list lv (OpOk.lt_int ⟨_, rfl, fun b2 => ?_, fun b2 => ⟨nofun, fun _ => ?_⟩⟩))))))))
        · rw [dI_length] at b2
          have hj2 : j < v.length := by simp only [decide_eq_true_eq] at b2; omega
          have hc2 : v[j]? = some v[j] := List.getElem?_eq_getElem hj2
          rw [drop_get hc, drop_get hc2] at h2
          simp only [commonStart] at h2
          refine TA.and (TS.cmp (EV.index (EV.name (d := dL u) rfl (EV.name (d := .int j) rfl ⟨dI u, j, .int u[j], .inl rfl, rfl, by omega, dI_item hc, EV.index (EV.name (d := dL v) rfl (EV.name (d := .int j) rfl ⟨dI v, j, .int v[j], .inl rfl, rfl, by omega, dI_item hc2, OpOk.eq_int ⟨_, rfl, fun b3 => TA.andNil ⟨fun _ => ?_, nofun⟩, fun b3 => ⟨nofun, fun _ => ?_⟩⟩⟩))⟩))))
          · rw [if_pos b3] at h2
            refine EX.cons (EX1.assign (EV.binop (EV.name (d := .int j) rfl (EV.int (OpOk.add_int (EX.nil ⟨u.length - (j + 1), by omega, j + 1, rfl, by omega, rfl, ?_⟩))))))
            rw [← h2, List.take_add_one, hc, List.append_assoc]; rfl
          · rw [if_neg (by rw [b3]; exact Bool.false_ne_true), List.append_nil] at h2
            exact ⟨j, rfl, h2⟩
        · rw [dI_length] at b2
          have hj2 : v.length ≤ j := by simp only [decide_eq_false_iff_not] at b2; omega
          rw [List.drop_of_length_le hj2, commonStart_nil_r, List.append_nil] at h2
          exact ⟨j, rfl, h2⟩
      · rw [dI_length] at b1
        have hj : u.length ≤ j := by simp only [decide_eq_false_iff_not] at b1; omega
        rw [List.drop_of_length_le hj] at h2
        simp only [commonStart, List.append_nil] at h2
        exact ⟨j, rfl, h2⟩
    rintro μ own ⟨j, rfl, h2⟩
    refine EX.cons (EX1.ret (EV.slice (EV.name (d := dL u) rfl ⟨dI u, rfl, lu, PT.zero (PT.one (EV.name (d := .int j) rfl ⟨j, rfl, ?_⟩))⟩)))
    show FlowD.ret _ = _
    rw [show cut (dI u) none (some j) = dI (u.take j) by unfold cut; simp [dI_take], h2]
    rfl

theorem fn_is_blank_lead : FN 33 0 ["lead"] (fun l : List Int => [dL l]) (fun l => l.length ≤ 2 ^ 20) (fun l => .bool (isBlankLead l)) where
  binds := ⟨by decide, (fun vs pm code doc h => match vs, h with | [_], _ => rfl), by decide, rfl, rfl, rfl, by decide⟩
  isDef := rfl
  len := fun _ => rfl
  walk := fun x L a cd l hk hl hlen => by
    refine EX.cons (EX1.forL (EV.name (d := dL l) rfl ⟨dI l, rfl, fun k μ own => isBlankLead (l.take k) = true, rfl, ?_, ?_⟩))
    · intro k e μ own he hI
      rw [dI_get] at he
      obtain ⟨c, hc, rfl⟩ := Option.map_eq_some_iff.mp he
      have hb : isBlankLead (l.take (k + 1)) = (c == 32 || c == 9) := by
        unfold isBlankLead at hI ⊢
        rw [List.take_add_one, hc, List.all_append, hI]; simp
      have hfalse : (c == 32 || c == 9) = false → isBlankLead l = false := fun h => by
        rw [← hb] at h
        have e : l = l.take (k + 1) ++ l.drop (k + 1) := (List.take_append_drop _ _).symm
        unfold isBlankLead at h ⊢
        rw [e, List.all_append, h, Bool.false_and]
      have hg : (Mu.set μ "code" (.int c)).get "code" = some (.int c) := by rw [Mu.get_set]; rfl
      refine AS.name (EX.sub (μ' := ([("code", .int c)] : Mu)) ⟨hg, trivial⟩ (EX.cons (EX1.if_ (TS.boolop (TA.and (TS.cmp (EV.name (d := .int c) rfl (EV.globInt (i := 32) rfl (OpOk.ne_int ⟨_, rfl, fun b1 => ?_, fun b1 => ⟨nofun, fun _ => EX.nil (EX.nil ?_)⟩⟩))))))))) 
      · refine TA.and (TS.cmp (EV.name (d := .int c) rfl (EV.globInt (i := 9) rfl (OpOk.ne_int ⟨_, rfl, fun b2 => TA.andNil ⟨fun _ => ?_, nofun⟩, fun b2 => ⟨nofun, fun _ => EX.nil (EX.nil ?_)⟩⟩))))
        · refine EX.cons (EX1.ret (EV.bool ?_))
          show FlowD.ret _ = _
          rw [hfalse (by
            have e1 : (c == 32) = false := by simpa [bne] using b1
            have e2 : (c == 9) = false := by simpa [bne] using b2
            rw [e1, e2]; rfl)]
        · show isBlankLead (l.take (k + 1)) = true
          have e2 : (c == 9) = true := by simpa [bne] using b2
          rw [hb, e2, Bool.or_true]
      · show isBlankLead (l.take (k + 1)) = true
        have e1 : (c == 32) = true := by simpa [bne] using b1
        rw [hb, e1, Bool.true_or]
    · intro μ own hI
      rw [dI_length, List.take_of_length_le (Nat.le_refl _)] at hI
      refine EX.cons (EX1.ret (EV.bool ?_))
      show FlowD.ret _ = _
      rw [hI]

theorem joinedRows_snoc (l : List (List Int)) (r : List Int) : joinedRows (l ++ [r]) = if l.isEmpty then r else joinedRows l ++ 10 :: r := by
  induction l with
  | nil => rfl
  | cons a t ih =>
    cases t with
    | nil => rfl
    | cons b t =>
      have : joinedRows (a :: (b :: t)) = a ++ 10 :: joinedRows (b :: t) := rfl
      show a ++ 10 :: joinedRows ((b :: t) ++ [r]) = _
      rw [ih, this]; simp

theorem joinedRows_take_le (l : List (List Int)) (k : Nat) : (joinedRows (l.take k)).length ≤ (joinedRows l).length := by
  have gen : ∀ (a b : List (List Int)), (joinedRows a).length ≤ (joinedRows (a ++ b)).length := by
    intro a
    induction a with
    | nil => intro b; exact Nat.zero_le _
    | cons r t ih =>
      intro b
      cases t with
      | nil =>
        cases b with
        | nil => exact Nat.le_refl _
        | cons c b =>
          show r.length ≤ (r ++ 10 :: joinedRows (c :: b)).length
          rw [List.length_append]; omega
      | cons s t =>
        have := ih b
        show (r ++ 10 :: joinedRows (s :: t)).length ≤ (r ++ 10 :: joinedRows ((s :: t) ++ b)).length
        simp only [List.length_append, List.length_cons] at this ⊢
        omega
  conv => rhs; rw [← List.take_append_drop k l]
  exact gen _ _

theorem fn_joined_rows : FN 30 0 ["rows"] (fun rs : List (List Int) => [dR rs]) (fun rs => rs.length ≤ 2 ^ 20 ∧ (joinedRows rs).length ≤ 2 ^ 20) (fun rs => dL (joinedRows rs)) where
  binds := ⟨by decide, (fun vs pm code doc h => match vs, h with | [_], _ => rfl), by decide, rfl, rfl, rfl, by decide⟩
  isDef := rfl
  len := fun _ => rfl
  walk := fun x L a cd rs hk hl ⟨hlen, htot⟩ => by
    have len0 : (rs.map dL).length ≤ sizeLine := by rw [List.length_map]; exact sz20' hlen
    refine EX.cons (EX1.assign (EV.listOwn (AR.nil ⟨sz20' (by decide), fun a0 ha hne => ?_⟩)))
    refine EX.cons (EX1.for_ (IT.range (EV.callB (by decide) (by decide) (AR.cons (EV.name (d := dR rs) rfl (AR.nil (CallOk.len_list len0 ⟨rs.length, by rw [List.length_map], by omega, ?_⟩)))))))
    refine ⟨fun k μ own => MuSub ([("rows", dR rs), ("codes", .mut a0)] : Mu) μ ∧ own = [(a0, .lst (dI (joinedRows (rs.take k))))], ⟨⟨rfl, rfl, trivial⟩, rfl⟩, ?_, ?_⟩
    · rintro k μ own hk' ⟨hs, rfl⟩
      have hget : rs[k]? = some rs[k] := List.getElem?_eq_getElem hk'
      have htk : rs.take (k + 1) = rs.take k ++ [rs[k]] := by rw [List.take_add_one, hget]; rfl
      have hle := joinedRows_take_le rs (k + 1)
      rw [htk, joinedRows_snoc] at hle
      refine AS.name (EX.sub (μ' := ([("rows", dR rs), ("codes", .mut a0), ("place", .int k)] : Mu)) ⟨by rw [Mu.get_set]; exact hs.1, by rw [Mu.get_set]; exact hs.2.1, by rw [Mu.get_set]; rfl, trivial⟩ ?_)
      refine EX.cons (EX1.if_ (TS.cmp (EV.name (d := .int k) rfl (EV.int (OpOk.gt_int ⟨_, rfl, fun b1 => ?_, fun b1 => EX.nil ?_⟩)))))
      · have hk0 : 0 < k := by simp only [decide_eq_true_eq] at b1; omega
        have hne2 : (rs.take k).isEmpty = false := by
          rw [List.isEmpty_eq_false_iff]; intro e; have := congrArg List.length e; rw [List.length_take] at this; simp only [List.length_nil] at this; omega
        rw [hne2, if_neg Bool.false_ne_true, List.length_append, List.length_cons] at hle
        refine EX.cons (EX1.expr (EV.append (EV.name (d := .mut a0) rfl ⟨a0, _, [], rfl, List.Perm.refl _, EV.globInt (i := 10) rfl ⟨dI (joinedRows (rs.take k)), [], List.Perm.refl _, by rw [dI_length]; exact sz20' (by omega), rfl, EX.nil ?_⟩⟩)))
        refine EX.cons (EX1.expr (EV.extend (EV.name (d := .mut a0) rfl ⟨a0, _, [], rfl, List.Perm.refl _, EV.index (EV.name (d := dR rs) rfl (EV.name (d := .int k) rfl ⟨rs.map dL, k, dL rs[k], .inl rfl, rfl, by omega, dR_item hget, dI (joinedRows (rs.take k)) ++ [.int 10], dI rs[k], [], rfl, List.Perm.refl _, ?_, rfl, EX.nil ⟨⟨rfl, rfl, trivial⟩, ?_⟩⟩))⟩)))
        · rw [List.length_append, dI_length, dI_length]; exact sz20' (by simp only [List.length_singleton]; omega)
        · rw [htk, joinedRows_snoc, hne2, if_neg Bool.false_ne_true, dI_append]
          simp [dI]
      · have hk0 : k = 0 := by simp only [decide_eq_false_iff_not] at b1; omega
        subst hk0
        rw [List.take_zero] at hle
        simp only [List.isEmpty_nil, if_true] at hle
        refine EX.cons (EX1.expr (EV.extend (EV.name (d := .mut a0) rfl ⟨a0, _, [], rfl, List.Perm.refl _, EV.index (EV.name (d := dR rs) rfl (EV.name (d := .int 0) rfl ⟨rs.map dL, 0, dL rs[0], .inl rfl, rfl, by omega, dR_item (j := 0) hget, dI (joinedRows (rs.take 0)), dI rs[0], [], rfl, List.Perm.refl _, ?_, rfl, EX.nil ⟨⟨rfl, rfl, trivial⟩, ?_⟩⟩))⟩)))
        · rw [List.take_zero, dI_length, dI_length]; exact sz20' (by simp only [joinedRows, List.length_nil]; omega)
        · rw [htk, joinedRows_snoc, List.take_zero]; rfl
    · rintro μ own ⟨hs, rfl⟩
      rw [List.take_of_length_le (Nat.le_refl _)]
      exact EX.sub (μ' := ([("codes", .mut a0)] : Mu)) ⟨hs.2.1, trivial⟩ (EX.freeze (a := a0) (ds := dI (joinedRows rs)) (μ' := ([("codes", dL (joinedRows rs))] : Mu)) (List.Perm.refl _) hne ⟨.inr ⟨rfl, rfl⟩, trivial⟩ (EX.cons (EX1.ret (EV.name (d := dL (joinedRows rs)) rfl rfl))))

end Fill66
end
noncomputable section
open PySem PySem.W PyProof.Rows
set_option maxRecDepth 100000
namespace Fill66

theorem splitRows_snoc (l : List Int) (c : Int) : splitRows (l ++ [c]) = if c == 10 then splitRows l ++ [[]] else (splitRows l).dropLast ++ [(splitRows l).getLastD [] ++ [c]] := by
  unfold splitRows
  rw [List.foldl_append]
  rfl

theorem fn_split_rows : FN 29 0 ["codes"] (fun l : List Int => [dL l]) (fun l => l.length ≤ 2 ^ 20) (fun l => dR (splitRows l)) where
  binds := ⟨by decide, (fun vs pm code doc h => match vs, h with | [_], _ => rfl), by decide, rfl, rfl, rfl, by decide⟩
  isDef := rfl
  len := fun _ => rfl
  walk := fun x L a cd l hk hl hlen => by
    refine EX.cons (EX1.assign (EV.listOwn (AR.cons (EV.listOwn (AR.nil ⟨sz20' (by decide), fun a1 ha1 hne1 => AR.nil ⟨sz20' (by simp), fun a0 ha0 hne0 => ?_⟩⟩)))))
    refine EX.cons (EX1.forL (EV.name (d := dL l) rfl ⟨dI l, rfl, fun k μ own => ∃ (a1 : Addr) (done : List (List Int)) (cur : List Int), x.lent ≠ some a1 ∧ MuSub ([("rows", .mut a0)] : Mu) μ ∧ own.Perm [(a0, .lst (done.map dL ++ [.mut a1])), (a1, .lst (dI cur))] ∧
      splitRows (l.take k) = done ++ [cur] ∧ done.length ≤ k ∧ cur.length ≤ k, ⟨a1, [], [], hne1, ⟨rfl, trivial⟩, List.Perm.refl _, rfl, Nat.zero_le _, Nat.zero_le _⟩, ?_, ?_⟩))
    · rintro k e μ own he ⟨b1, done, cur, hne, hs, hp, h1, h2, h3⟩
      rw [dI_get] at he
      obtain ⟨c, hc, rfl⟩ := Option.map_eq_some_iff.mp he
      have hk' : k < l.length := (List.getElem?_eq_some_iff.mp hc).1
      have hsn : splitRows (l.take (k + 1)) = if c == 10 then (done ++ [cur]) ++ [[]] else done ++ [cur ++ [c]] := by
        rw [List.take_add_one, hc]
        show splitRows (l.take k ++ [c]) = _
        rw [splitRows_snoc, h1]
        split
        · rfl
        · simp
      refine AS.name (EX.sub (μ' := ([("rows", .mut a0), ("code", .int c)] : Mu)) ⟨by rw [Mu.get_set]; exact hs.1, by rw [Mu.get_set]; rfl, trivial⟩ ?_)
      refine EX.cons (EX1.if_ (TS.cmp (EV.name (d := .int c) rfl (EV.globInt (i := 10) rfl (OpOk.eq_int ⟨_, rfl, fun hb => ?_, fun hb => ?_⟩)))))
      · rw [if_pos hb] at hsn
        refine EX.freezeCell (a₁ := b1) (a₀ := a0) (c := dI cur) (ds := done.map dL ++ [.mut b1]) (ds' := (done ++ [cur]).map dL) (μ' := ([("rows", .mut a0), ("code", .int c)] : Mu)) (own' := []) (hp.trans (List.Perm.swap _ _ _)) hne ?_ ⟨.inl rfl, .inl rfl, trivial⟩ ?_
        · rw [List.map_append]
          exact SubL.append (SubL.refl _ _ _) ⟨.inr ⟨rfl, rfl⟩, trivial⟩
        refine EX.cons (EX1.expr (EV.append (EV.name (d := .mut a0) rfl ⟨a0, _, [], rfl, List.Perm.refl _, EV.listOwn (AR.nil ⟨sz20' (by decide), fun b2 hb2 hneb => ⟨(done ++ [cur]).map dL, [(b2, .lst [])], List.Perm.swap _ _ _, ?_, rfl, EX.nil ?_⟩⟩)⟩)))
        · rw [List.length_map, List.length_append, List.length_singleton]; exact sz20' (by omega)
        · exact EX.nil ⟨b2, done ++ [cur], [], hneb, ⟨rfl, trivial⟩, List.Perm.refl _, hsn, by rw [List.length_append, List.length_singleton]; omega, Nat.zero_le _⟩
      · rw [if_neg (by rw [hb]; exact Bool.false_ne_true)] at hsn
        have hm : (a0, Cell.lst (done.map dL ++ [.mut b1])) ∈ own := hp.symm.subset List.mem_cons_self
        have hlenm : (done.map dL ++ [D.mut b1]).length = done.length + 1 := by rw [List.length_append, List.length_map, List.length_singleton]
        refine EX.cons (EX1.expr (EV.append (EV.indexMut (EV.name (d := .mut a0) rfl (EV.binop (EV.callB (by decide) (by decide) (AR.cons (EV.name (d := .mut a0) rfl (AR.nil (CallOk.len_mut hm (by rw [hlenm]; exact sz20' (by omega)) (EV.int (OpOk.sub_int ?_)))))))))) ))
        refine ⟨a0, done.map dL ++ [.mut b1], _, .mut b1, rfl, hm, rfl, ?_, ?_, b1, dI cur, [(a0, .lst (done.map dL ++ [.mut b1]))], rfl, hp.trans (List.Perm.swap _ _ _), EV.name (d := .int c) rfl ⟨dI cur, [(a0, .lst (done.map dL ++ [.mut b1]))], hp.trans (List.Perm.swap _ _ _), ?_, rfl, EX.nil ?_⟩⟩
        · rw [hlenm]; omega
        · rw [hlenm]
          have e : ((done.length + 1 : Nat) : Int) - 1 = (done.length : Int) := by omega
          rw [e]
          refine item_nat' ?_
          rw [List.getElem?_append_right (by rw [List.length_map]; exact Nat.le_refl _), List.length_map, Nat.sub_self]; rfl
        · rw [dI_length]; exact sz20' (by omega)
        · refine EX.nil ⟨b1, done, cur ++ [c], hne, ⟨rfl, trivial⟩, ?_, hsn, by omega, by rw [List.length_append, List.length_singleton]; omega⟩
          rw [dI_append]
          exact List.Perm.swap _ _ _
    · rintro μ own ⟨b1, done, cur, hne, hs, hp, h1, h2, h3⟩
      rw [dI_length, List.take_of_length_le (Nat.le_refl _)] at h1
      refine EX.sub hs (EX.freezeCell (a₁ := b1) (a₀ := a0) (c := dI cur) (ds := done.map dL ++ [.mut b1]) (ds' := (done ++ [cur]).map dL) (μ' := ([("rows", .mut a0)] : Mu)) (own' := []) (hp.trans (List.Perm.swap _ _ _)) hne ?_ ⟨.inl rfl, trivial⟩ ?_)
      · rw [List.map_append]
        exact SubL.append (SubL.refl _ _ _) ⟨.inr ⟨rfl, rfl⟩, trivial⟩
      rw [← h1]
      exact EX.freeze (a := a0) (ds := (splitRows l).map dL) (μ' := ([("rows", dR (splitRows l))] : Mu)) (List.Perm.refl _) hne0 ⟨.inr ⟨rfl, rfl⟩, trivial⟩ (EX.cons (EX1.ret (EV.name (d := dR (splitRows l)) rfl rfl)))

end Fill66
end
noncomputable section
open PySem PySem.W PyProof.Rows
set_option maxRecDepth 100000
namespace Fill66

theorem leadOf_length (r : List Int) : (leadOf r).length ≤ r.length := by
  unfold leadOf
  exact (List.takeWhile_sublist _).length_le
theorem commonStart_length : ∀ a b : List Int, (commonStart a b).length ≤ a.length
  | [], _ => by simp [commonStart]
  | _ :: _, [] => by simp [commonStart]
  | x :: a, y :: b => by
    unfold commonStart
    split
    · have := commonStart_length a b; simp only [List.length_cons]; omega
    · exact Nat.zero_le _

def RowsOk (rows : List (List Int)) : Prop := rows ≠ [] ∧ rows.length ≤ 2 ^ 20 ∧ ∀ r ∈ rows, r.length ≤ 2 ^ 20

theorem fn_leads_of : FN 34 1 ["rows", "filling"] (fun q : List (List Int) × Int => [dR q.1, .fill q.2]) (fun q => RowsOk q.1) (fun q => .tup [dL (leadsOf q.1).1, dL (leadsOf q.1).2]) where
  binds := ⟨by decide, (fun vs pm code doc h => match vs, h with | [_, _], _ => rfl), by decide, rfl, rfl, rfl, by decide⟩
  isDef := rfl
  len := fun _ => rfl
  walk := fun x L a cd ⟨rows, col⟩ hk hl ⟨hne, hlen, hrow⟩ => by
    simp only at hne hlen hrow
    have len0 : (rows.map dL).length ≤ sizeLine := by rw [List.length_map]; exact sz20' hlen
    cases rows with
    | nil => exact absurd rfl hne
    | cons r rs =>
      have hr := hrow r List.mem_cons_self
      have hl0 := leadOf_length r
      refine EX.cons (EX1.assign (EV.callF fn_lead_of (by omega) (AR.cons (EV.index (EV.name (d := dR (r :: rs)) rfl (EV.int ⟨(r :: rs).map dL, 0, dL r, .inl rfl, rfl, by omega, rfl, AR.cons (EV.name (d := .fill col) rfl (AR.nil ⟨(r, col), rfl, hr, ?_⟩))⟩))))))
      refine EX.cons (EX1.if_ (TS.cmp (EV.callB (by decide) (by decide) (AR.cons (EV.name (d := dR (r :: rs)) rfl (AR.nil (CallOk.len_list len0 (EV.int (OpOk.eq_int ⟨_, rfl, fun b1 => ?_, fun b1 => EX.nil ?_⟩)))))))))
      · rw [List.length_map] at b1
        have hrs : rs = [] := by
          cases rs with
          | nil => rfl
          | cons s t => simp at b1; omega
        subst hrs
        refine EX.cons (EX1.ret (EV.tuple (AR.cons (EV.name (d := dL (leadOf r)) rfl (AR.cons (EV.ifexp (TS.value (EV.callF fn_is_blank_lead (by omega) (AR.cons (EV.name (d := dL (leadOf r)) rfl (AR.nil ⟨leadOf r, rfl, by omega, _, rfl, fun b2 => ?_, fun b2 => ?_⟩)))))))))))
        · refine EV.name (d := dL (leadOf r)) rfl (AR.nil ⟨sz20' (by simp), ?_⟩)
          show FlowD.ret _ = _
          simp only [leadsOf, b2, if_true]
        · refine EV.list (AR.nil ⟨sz20' (by simp), AR.nil ⟨sz20' (by simp), ?_⟩⟩)
          show FlowD.ret _ = _
          simp only [leadsOf, b2]; rfl
      · rw [List.length_map] at b1
        cases rs with
        | nil => simp at b1
        | cons s t =>
          have hs := hrow s (List.mem_cons_of_mem _ List.mem_cons_self)
          have hls := leadOf_length s
          refine EX.cons (EX1.assign (EV.callF fn_lead_of (by omega) (AR.cons (EV.index (EV.name (d := dR (r :: s :: t)) rfl (EV.int ⟨(r :: s :: t).map dL, 1, dL s, .inl rfl, rfl, by omega, rfl, AR.cons (EV.name (d := .fill col) rfl (AR.nil ⟨(s, col), rfl, hs, ?_⟩))⟩))))))
          refine EX.cons (EX1.forL (EV.slice (EV.name (d := dR (r :: s :: t)) rfl ⟨(r :: s :: t).map dL, rfl, len0, PT.one (EV.int ⟨2, rfl, PT.zero ⟨_, rfl, ?_⟩⟩)⟩)))
          have hcut : cut ((r :: s :: t).map dL) (some 2) none = t.map dL := rfl
          rw [hcut]
          refine ⟨fun k μ own => ∃ rest : List Int, rest.length ≤ 2 ^ 20 ∧ MuSub ([("filling", .fill col), ("first", dL (leadOf r)), ("rest", dL rest)] : Mu) μ ∧ (t.take k).foldl (fun c x => commonStart c (leadOf x)) (leadOf s) = rest, ⟨leadOf s, by omega, ⟨rfl, rfl, rfl, trivial⟩, rfl⟩, ?_, ?_⟩
          · rintro k e μ own he ⟨rest, hrl, hsub, h1⟩
            rw [List.getElem?_map] at he
            obtain ⟨u, hu, rfl⟩ := Option.map_eq_some_iff.mp he
            have hul := hrow u (List.mem_cons_of_mem _ (List.mem_cons_of_mem _ (List.mem_of_getElem? hu)))
            have hlu := leadOf_length u
            refine AS.name (EX.sub (μ' := ([("filling", .fill col), ("first", dL (leadOf r)), ("rest", dL rest), ("row", dL u)] : Mu)) ⟨by rw [Mu.get_set]; exact hsub.1, by rw [Mu.get_set]; exact hsub.2.1, by rw [Mu.get_set]; exact hsub.2.2.1, by rw [Mu.get_set]; rfl, trivial⟩ ?_)
            refine EX.cons (EX1.assign (EV.callF fn_common_start (by omega) (AR.cons (EV.name (d := dL rest) rfl (AR.cons (EV.callF fn_lead_of (by omega) (AR.cons (EV.name (d := dL u) rfl (AR.cons (EV.name (d := .fill col) rfl (AR.nil ⟨(u, col), rfl, hul, AR.nil ⟨(rest, leadOf u), rfl, ⟨hrl, Nat.le_trans hlu hul⟩, ?_⟩⟩)))))))))))
            refine EX.nil ⟨commonStart rest (leadOf u), Nat.le_trans (commonStart_length _ _) hrl, ⟨rfl, rfl, rfl, trivial⟩, ?_⟩
            rw [List.take_add_one, hu, List.foldl_append, h1]; rfl
          · rintro μ own ⟨rest, hrl, hsub, h1⟩
            rw [List.length_map, List.take_of_length_le (Nat.le_refl _)] at h1
            refine EX.sub (μ' := ([("first", dL (leadOf r)), ("rest", dL rest)] : Mu)) ⟨hsub.2.1, hsub.2.2.1, trivial⟩ (EX.cons (EX1.ret (EV.tuple (AR.cons (EV.name (d := dL (leadOf r)) rfl (AR.cons (EV.name (d := dL rest) rfl (AR.nil ⟨sz20' (by simp), ?_⟩))))))))
            show FlowD.ret _ = _
            simp only [leadsOf, h1]

theorem takeWhile_ne {l : List Int} {p : Int → Bool} {c : Int} (h : l.head? = some c) (hc : p c = true) : l.takeWhile p ≠ [] := by
  cases l with
  | nil => cases h
  | cons a t =>
    cases h
    rw [List.takeWhile_cons, hc]; exact List.cons_ne_nil _ _

def headOk (l : List Int) : Prop := ∀ c, l.head? = some c → isBlank c = false
theorem headOk_dropWhile (l : List Int) : headOk (l.dropWhile isBlank) := by
  induction l with
  | nil => intro c h; cases h
  | cons a t ih =>
    rw [List.dropWhile_cons]
    split
    · exact ih
    · rename_i hb; intro c h; cases h; simpa using hb

theorem takeWhile_len_drop (l : List Int) (p : Int → Bool) : (l.takeWhile p).length + (l.dropWhile p).length = l.length := by
  rw [← List.length_append, List.takeWhile_append_dropWhile]

theorem gapOf_range (w b : List Int) : 0 ≤ gapOf w b ∧ gapOf w b ≤ 2 := by
  unfold gapOf
  (repeat' split) <;> omega

/-- the pieces: words of one sign or more, as long together as the text at most -/
theorem piecesR_ok (l : List Int) (h : headOk l) : (∀ p ∈ piecesR l, p.1 ≠ [] ∧ p.1.length ≤ l.length ∧ 0 ≤ p.2 ∧ p.2 ≤ 2) := by
  induction hn : l.length using Nat.strongRecOn generalizing l with
  | ind n ih =>
    intro p hp
    by_cases he : l = []
    · subst he; rw [piecesR_nil] at hp; cases hp
    · rw [piecesR_cons he] at hp
      obtain ⟨c, hc⟩ : ∃ c, l.head? = some c := by
        cases l with
        | nil => exact absurd rfl he
        | cons a t => exact ⟨a, rfl⟩
      have hlen := takeWhile_len_drop l (!isBlank ·)
      rcases List.mem_cons.mp hp with rfl | hp
      · refine ⟨takeWhile_ne hc (by simp [h c hc]), by simp only; omega, gapOf_range _ _⟩
      · have hd := pieces_dec he
        obtain ⟨a, b, c⟩ := ih _ (hn ▸ hd) _ (headOk_dropWhile _) rfl p hp
        exact ⟨a, by omega, c⟩

theorem piecesOf_ok {l : List Int} (hl : l.length ≤ 2 ^ 20) : PiecesOk (piecesOf l) ∧ ∀ p ∈ piecesOf l, 0 ≤ p.2 ∧ p.2 ≤ 2 := by
  have h1 := piecesR_ok (l.dropWhile isBlank) (headOk_dropWhile l)
  have h2 := piecesR_length (l.dropWhile isBlank)
  have h3 := dropWhile_length_le isBlank l
  exact ⟨⟨by unfold piecesOf; omega, fun p hp => ⟨(h1 p hp).1, by have := (h1 p hp).2.1; omega⟩⟩, fun p hp => (h1 p hp).2.2⟩

theorem rowsR_mem (first width : Int) (ps : List Piece) : ∀ r ∈ rowsR first width ps, r.length ≤ ps.length ∧ ∀ p ∈ r, p ∈ ps := by
  induction hn : ps.length using Nat.strongRecOn generalizing ps first with
  | ind n ih =>
    intro r hr
    by_cases he : ps = []
    · subst he; rw [rowsR_nil] at hr; cases hr
    · rw [rowsR_cons _ _ he] at hr
      rcases List.mem_cons.mp hr with rfl | hr
      · exact ⟨by rw [List.length_take]; omega, fun p hp => List.mem_of_mem_take hp⟩
      · have hb := rowLen_bounds first ps he
        obtain ⟨a, b⟩ := ih _ (by rw [List.length_drop]; omega) width (ps.drop (rowLen first ps)) rfl r hr
        exact ⟨by rw [List.length_drop] at a; omega, fun p hp => List.mem_of_mem_drop (b p hp)⟩

def ParaOk (col : Int) (rows : List (List Int)) : Prop :=
  RowsOk rows ∧ (wordsOfRows (leadsOf rows).1 (leadsOf rows).2 rows).length ≤ 2 ^ 20 ∧ (∀ r ∈ rows, (9 : Int) ∉ r) ∧ (filledPara col rows).length ≤ 2 ^ 20 ∧ ∀ r ∈ filledPara col rows, r.length ≤ 2 ^ 20

theorem leadOf_mem {r : List Int} {c : Int} (h : c ∈ leadOf r) : c ∈ r := (List.takeWhile_sublist _).subset h
theorem commonStart_mem : ∀ {a b : List Int} {c : Int}, c ∈ commonStart a b → c ∈ a
  | [], _, _, h => by simp [commonStart] at h
  | _ :: _, [], _, h => by simp [commonStart] at h
  | x :: a, y :: b, c, h => by
    unfold commonStart at h
    split at h
    · rcases List.mem_cons.mp h with rfl | h
      · exact List.mem_cons_self
      · exact List.mem_cons_of_mem _ (commonStart_mem h)
    · cases h
theorem leadsOf_len {rows : List (List Int)} {c : Int} (hc : ∀ r ∈ rows, c ∉ r) (hl : ∀ r ∈ rows, r.length ≤ 2 ^ 20) : c ∉ (leadsOf rows).1 ∧ c ∉ (leadsOf rows).2 ∧ (leadsOf rows).1.length ≤ 2 ^ 20 ∧ (leadsOf rows).2.length ≤ 2 ^ 20 := by
  match rows with
  | [] => exact ⟨nofun, nofun, Nat.zero_le _, Nat.zero_le _⟩
  | [r] =>
    have h1 := hc r List.mem_cons_self
    have h2 := hl r List.mem_cons_self
    have h3 := leadOf_length r
    refine ⟨fun h => h1 (leadOf_mem h), fun h => ?_, by show (leadOf r).length ≤ _; omega, ?_⟩
    · simp only [leadsOf] at h
      split at h
      · exact h1 (leadOf_mem h)
      · cases h
    · simp only [leadsOf]; split
      · omega
      · exact Nat.zero_le _
  | r :: s :: t =>
    have h1 := hc r List.mem_cons_self
    have h2 := hl r List.mem_cons_self
    have h3 := leadOf_length r
    have g1 := hc s (List.mem_cons_of_mem _ List.mem_cons_self)
    have g2 := hl s (List.mem_cons_of_mem _ List.mem_cons_self)
    have g3 := leadOf_length s
    have gen : ∀ (t : List (List Int)) (a : List Int), c ∉ a → a.length ≤ 2 ^ 20 → c ∉ t.foldl (fun c x => commonStart c (leadOf x)) a ∧ (t.foldl (fun c x => commonStart c (leadOf x)) a).length ≤ 2 ^ 20 := by
      intro t
      induction t with
      | nil => intro a h h'; exact ⟨h, h'⟩
      | cons u t ih => intro a h h'; exact ih _ (fun e => h (commonStart_mem e)) (Nat.le_trans (commonStart_length _ _) h')
    obtain ⟨k1, k2⟩ := gen t (leadOf s) (fun h => g1 (leadOf_mem h)) (by omega)
    exact ⟨fun h => h1 (leadOf_mem h), k1, by show (leadOf r).length ≤ _; omega, k2⟩

end Fill66
end
noncomputable section
open PySem PySem.W PyProof.Rows
set_option maxRecDepth 100000
namespace Fill66

theorem placeRows_snoc (first rest : List Int) (l : List (List Piece)) (p : List Piece) : placeRows first rest (l ++ [p]) = placeRows first rest l ++ [(if l.isEmpty then first else rest) ++ rowCodes p] := by
  cases l with
  | nil => rfl
  | cons q l => simp [placeRows]
theorem placeRows_length (first rest : List Int) (l : List (List Piece)) : (placeRows first rest l).length = l.length := by
  cases l with
  | nil => rfl
  | cons q l => simp [placeRows]

theorem fn_filled_paragraph : FN 35 3 ["rows", "filling"] (fun q : List (List Int) × Int => [dR q.1, .fill q.2]) (fun q => ParaOk q.2 q.1) (fun q => dR (filledPara q.2 q.1)) where
  binds := ⟨by decide, (fun vs pm code doc h => match vs, h with | [_, _], _ => rfl), by decide, rfl, rfl, rfl, by decide⟩
  isDef := rfl
  len := fun _ => rfl
  walk := fun x L a cd ⟨rows, col⟩ hk hl ⟨hrows, hwords, h9, hplen, hprow⟩ => by
    simp only at hrows hwords h9 hplen hprow
    have hne := hrows.1
    have hlen := hrows.2.1
    have hrow := hrows.2.2
    have len0 : (rows.map dL).length ≤ sizeLine := by rw [List.length_map]; exact sz20' hlen
    obtain ⟨f9, r9, fl, rl⟩ := leadsOf_len h9 hrow
    have hdef : filledPara col rows = placeRows (leadsOf rows).1 (leadsOf rows).2 (rowsR (col - (leadsOf rows).1.length) (col - (leadsOf rows).2.length) (piecesOf (wordsOfRows (leadsOf rows).1 (leadsOf rows).2 rows))) := rfl
    obtain ⟨first, hfirst⟩ : ∃ f, f = (leadsOf rows).1 := ⟨_, rfl⟩
    obtain ⟨rest, hrest⟩ : ∃ f, f = (leadsOf rows).2 := ⟨_, rfl⟩
    refine EX.cons (EX1.assignTup (EV.callF fn_leads_of (by omega) (AR.cons (EV.name (d := dR rows) rfl (AR.cons (EV.name (d := .fill col) rfl (AR.nil ⟨(rows, col), rfl, hrows, AS.tuple ⟨rfl, AS.name ⟨rfl, AS.name ?_⟩⟩ rfl⟩)))))))
    simp only
    rw [← hfirst] at f9 fl hwords hdef ⊢
    rw [← hrest] at r9 rl hwords hdef ⊢
    have lf : (dI first).length ≤ sizeLine := by rw [dI_length]; exact sz20' fl
    have lr : (dI rest).length ≤ sizeLine := by rw [dI_length]; exact sz20' rl
    cases rows with
    | nil => exact absurd rfl hne
    | cons r rs =>
      refine EX.cons (EX1.assign (EV.slice (EV.index (EV.name (d := dR (r :: rs)) rfl (EV.int ⟨(r :: rs).map dL, 0, dL r, .inl rfl, rfl, by omega, rfl, dI r, rfl, by rw [dI_length]; exact sz20' (hrow r List.mem_cons_self), PT.one (EV.callB (by decide) (by decide) (AR.cons (EV.name (d := dL first) rfl (AR.nil (CallOk.len_list lf ⟨first.length, by rw [dI_length], PT.zero ?_⟩)))))⟩)))))
      have hc0 : cut (dI r) (some first.length) none = dI (r.drop first.length) := by unfold cut; exact dI_drop _ _
      rw [hc0]
      have wle : ∀ k, ((rs.take k).foldl (fun w x => w ++ 10 :: x.drop rest.length) (r.drop first.length)).length ≤ 2 ^ 20 := fun k => by
        have gen : ∀ (a b : List (List Int)) (w : List Int), (a.foldl (fun w x => w ++ 10 :: x.drop rest.length) w).length ≤ ((a ++ b).foldl (fun w x => w ++ 10 :: x.drop rest.length) w).length := by
          intro a b w
          rw [List.foldl_append]
          generalize a.foldl (fun w x => w ++ 10 :: x.drop rest.length) w = v
          induction b generalizing v with
          | nil => exact Nat.le_refl _
          | cons y b ih => exact Nat.le_trans (by rw [List.length_append]; omega) (ih _)
        have := gen (rs.take k) (rs.drop k) (r.drop first.length)
        rw [List.take_append_drop] at this
        exact Nat.le_trans this hwords
      refine EX.cons (EX1.forL (EV.slice (EV.name (d := dR (r :: rs)) rfl ⟨(r :: rs).map dL, rfl, len0, PT.one (EV.int ⟨1, rfl, PT.zero ⟨_, rfl, ?_⟩⟩)⟩)))
      rw [show cut ((r :: rs).map dL) (some 1) none = rs.map dL from rfl]
      refine ⟨fun k μ own => MuSub ([("filling", .fill col), ("first", dL first), ("rest", dL rest), ("words", dL ((rs.take k).foldl (fun w x => w ++ 10 :: x.drop rest.length) (r.drop first.length)))] : Mu) μ ∧ own = [], ⟨⟨rfl, rfl, rfl, rfl, trivial⟩, rfl⟩, ?_, ?_⟩
      · rintro k e μ own he ⟨hsub, rfl⟩
        rw [List.getElem?_map] at he
        obtain ⟨u, hu, rfl⟩ := Option.map_eq_some_iff.mp he
        have hul := hrow u (List.mem_cons_of_mem _ (List.mem_of_getElem? hu))
        have hnext : (rs.take (k + 1)).foldl (fun w x => w ++ 10 :: x.drop rest.length) (r.drop first.length) = (rs.take k).foldl (fun w x => w ++ 10 :: x.drop rest.length) (r.drop first.length) ++ 10 :: u.drop rest.length := by
          rw [List.take_add_one, hu, List.foldl_append]; rfl
        have hle := wle (k + 1)
        obtain ⟨ws, hws⟩ : ∃ ws, ws = (rs.take k).foldl (fun w x => w ++ 10 :: x.drop rest.length) (r.drop first.length) := ⟨_, rfl⟩
        rw [hnext] at hle
        rw [← hws] at hsub hle hnext
        rw [List.length_append, List.length_cons] at hle
        refine AS.name (EX.sub (μ' := ([("filling", .fill col), ("first", dL first), ("rest", dL rest), ("words", dL ws), ("row", dL u)] : Mu)) ⟨by rw [Mu.get_set]; exact hsub.1, by rw [Mu.get_set]; exact hsub.2.1, by rw [Mu.get_set]; exact hsub.2.2.1, by rw [Mu.get_set]; exact hsub.2.2.2.1, by rw [Mu.get_set]; rfl, trivial⟩ ?_)
        refine EX.cons (EX1.assign (EV.binop (EV.binop (EV.name (d := dL ws) rfl (EV.list (AR.cons (EV.globInt (i := 10) rfl (AR.nil ⟨sz20' (by simp), OpOk.add_list (by rw [dI_length]; exact sz20' (by simp only [List.length_singleton]; omega)) ?_⟩))))))))
        refine EV.slice (EV.name (d := dL u) rfl ⟨dI u, rfl, by rw [dI_length]; exact sz20' hul, PT.one (EV.callB (by decide) (by decide) (AR.cons (EV.name (d := dL rest) rfl (AR.nil (CallOk.len_list lr ⟨rest.length, by rw [dI_length], PT.zero ?_⟩)))))⟩)
        rw [show cut (dI u) (some rest.length) none = dI (u.drop rest.length) by unfold cut; exact dI_drop _ _]
        refine OpOk.add_list (by rw [List.length_append, dI_length, dI_length]; exact sz20' (by simp only [List.length_singleton]; omega)) (EX.nil ⟨⟨rfl, rfl, rfl, ?_, trivial⟩, rfl⟩)
        show some (D.list _) = some (dL ((rs.take (k + 1)).foldl (fun w x => w ++ 10 :: x.drop rest.length) (r.drop first.length)))
        rw [hnext]
        simp [dI, dL]
      · rintro μ own ⟨hsub, rfl⟩
        rw [List.length_map, List.take_of_length_le (Nat.le_refl _)] at hsub
        have hw2 : rs.foldl (fun w x => w ++ 10 :: x.drop rest.length) (r.drop first.length) = wordsOfRows first rest (r :: rs) := rfl
        rw [hw2] at hsub
        generalize wordsOfRows first rest (r :: rs) = ws at hsub hwords hdef
        obtain ⟨pok, pgap⟩ := piecesOf_ok hwords
        refine EX.sub hsub ?_
        refine EX.cons (EX1.assign (EV.binop (EV.fill_column (EV.name (d := .fill col) rfl ⟨col, rfl, EV.callF fn_row_columns (by omega) (AR.cons (EV.name (d := dL first) rfl (AR.cons (EV.fill_tab (EV.name (d := .fill col) rfl ⟨col, rfl, AR.nil ⟨first, rfl, ⟨fl, f9⟩, OpOk.sub_int ?_⟩⟩)))))⟩))))
        refine EX.cons (EX1.assign (EV.binop (EV.fill_column (EV.name (d := .fill col) rfl ⟨col, rfl, EV.callF fn_row_columns (by omega) (AR.cons (EV.name (d := dL rest) rfl (AR.cons (EV.fill_tab (EV.name (d := .fill col) rfl ⟨col, rfl, AR.nil ⟨rest, rfl, ⟨rl, r9⟩, OpOk.sub_int ?_⟩⟩)))))⟩))))
        refine EX.cons (EX1.assign (EV.listOwn (AR.nil ⟨sz20' (by decide), fun a0 ha hne0 => ?_⟩)))
        refine EX.cons (EX1.assign (EV.callF fn_rows_of (by omega) (AR.cons (EV.callF fn_pieces_of (by omega) (AR.cons (EV.name (d := dL ws) rfl (AR.nil ⟨ws, rfl, hwords, AR.cons (EV.name (d := .int (col - first.length)) rfl (AR.cons (EV.name (d := .int (col - rest.length)) rfl (AR.nil ⟨(piecesOf ws, col - first.length, col - rest.length), rfl, pok, ?_⟩))))⟩)))))))
        have hmem := rowsR_mem (col - first.length) (col - rest.length) (piecesOf ws)
        simp only
        generalize rowsR (col - first.length) (col - rest.length) (piecesOf ws) = parts at hdef hmem ⊢
        rw [hdef] at hplen hprow
        rw [placeRows_length] at hplen
        have lp : (parts.map dPs).length ≤ sizeLine := by rw [List.length_map]; exact sz20' hplen
        refine EX.cons (EX1.for_ (IT.range (EV.callB (by decide) (by decide) (AR.cons (EV.name (d := .list (parts.map dPs)) rfl (AR.nil (CallOk.len_list lp ⟨parts.length, by rw [List.length_map], by omega, ?_⟩)))))))
        refine ⟨fun k μ own => MuSub ([("filling", .fill col), ("first", dL first), ("rest", dL rest), ("room", .int (col - first.length)), ("later", .int (col - rest.length)), ("found", .mut a0), ("parts", .list (parts.map dPs))] : Mu) μ ∧
          own = [(a0, .lst ((placeRows first rest (parts.take k)).map dL))], ⟨⟨rfl, rfl, rfl, rfl, rfl, rfl, rfl, trivial⟩, rfl⟩, ?_, ?_⟩
        · rintro k μ own hk' ⟨hsub, rfl⟩
          have hget : parts[k]? = some parts[k] := List.getElem?_eq_getElem hk'
          obtain ⟨p, hp⟩ : ∃ p, p = parts[k] := ⟨_, rfl⟩
          rw [← hp] at hget
          obtain ⟨pm1, pm2⟩ := hmem p (List.mem_of_getElem? hget)
          have htk : parts.take (k + 1) = parts.take k ++ [p] := by rw [List.take_add_one, hget]; rfl
          have hpl : ((if (parts.take k).isEmpty then first else rest) ++ rowCodes p).length ≤ 2 ^ 20 := by
            refine hprow _ ?_
            have : placeRows first rest parts = placeRows first rest (parts.take (k + 1) ++ parts.drop (k + 1)) := by rw [List.take_append_drop]
            rw [this, htk]
            have gen : ∀ (a b : List (List Piece)), a ≠ [] → placeRows first rest (a ++ b) = placeRows first rest a ++ b.map fun q => rest ++ rowCodes q := by
              intro a b h
              cases a with
              | nil => exact absurd rfl h
              | cons y a => simp [placeRows]
            rw [gen _ _ (by simp), placeRows_snoc]
            simp
          have hemp : (parts.take k).isEmpty = decide (k = 0) := by
            cases k with
            | zero => rfl
            | succ k =>
              have : (parts.take (k + 1)).length ≠ 0 := by rw [List.length_take]; omega
              cases e : parts.take (k + 1) with
              | nil => rw [e] at this; exact absurd rfl this
              | cons _ _ => rfl
          rw [hemp] at hpl
          rw [List.length_append] at hpl
          have prow : p.length ≤ 2 ^ 20 ∧ GapsOk p ∧ (rowCodes p).length ≤ 2 ^ 20 := ⟨Nat.le_trans pm1 pok.1, fun q hq => by have := pgap q (pm2 q hq); omega, by omega⟩
          refine AS.name (EX.sub (μ' := ([("filling", .fill col), ("first", dL first), ("rest", dL rest), ("room", .int (col - first.length)), ("later", .int (col - rest.length)), ("found", .mut a0), ("parts", .list (parts.map dPs)), ("place", .int k)] : Mu))
            ⟨by rw [Mu.get_set]; exact hsub.1, by rw [Mu.get_set]; exact hsub.2.1, by rw [Mu.get_set]; exact hsub.2.2.1, by rw [Mu.get_set]; exact hsub.2.2.2.1, by rw [Mu.get_set]; exact hsub.2.2.2.2.1, by rw [Mu.get_set]; exact hsub.2.2.2.2.2.1, by rw [Mu.get_set]; exact hsub.2.2.2.2.2.2.1, by rw [Mu.get_set]; rfl, trivial⟩ ?_)
          have hz : ((k : Int) == 0) = decide (k = 0) := by
            by_cases h : k = 0
            · subst h; rfl
            · rw [decide_eq_false h]; simpa using h
          refine EX.cons (EX1.assign (EV.ifexp (TS.cmp (EV.name (d := .int k) rfl (EV.int (OpOk.eq_int ⟨_, rfl, fun b1 => ?_, fun b1 => ?_⟩))))))
          all_goals
            rw [hz] at b1
            rw [b1] at hpl hemp
            first
              | simp only [if_true] at hpl
              | simp only [Bool.false_eq_true, if_false] at hpl
            first
              | refine EV.name (d := dL first) rfl (EX.cons (EX1.assign (EV.ifexp (TS.cmp (EV.name (d := .int k) rfl (EV.int (OpOk.eq_int ⟨_, rfl, fun _ => EV.name (d := .int (col - first.length)) rfl ?_, fun b2 => (by rw [hz, b1] at b2; cases b2)⟩)))))))
              | refine EV.name (d := dL rest) rfl (EX.cons (EX1.assign (EV.ifexp (TS.cmp (EV.name (d := .int k) rfl (EV.int (OpOk.eq_int ⟨_, rfl, fun b2 => (by rw [hz, b1] at b2; cases b2), fun _ => EV.name (d := .int (col - rest.length)) rfl ?_⟩)))))))
            first
              | refine EX.cons (EX1.expr (EV.append (EV.name (d := .mut a0) rfl ⟨a0, _, [], rfl, List.Perm.refl _, EV.binop (EV.name (d := dL first) rfl (EV.callF fn_placed_row (by omega) (AR.cons (EV.index (EV.name (d := .list (parts.map dPs)) rfl (EV.name (d := .int k) rfl ⟨parts.map dPs, k, dPs p, .inl rfl, rfl, by omega, item_nat' (by rw [List.getElem?_map, hget]; rfl), AR.cons (EV.name (d := .int (col - first.length)) rfl ?_)⟩))))))⟩)))
              | refine EX.cons (EX1.expr (EV.append (EV.name (d := .mut a0) rfl ⟨a0, _, [], rfl, List.Perm.refl _, EV.binop (EV.name (d := dL rest) rfl (EV.callF fn_placed_row (by omega) (AR.cons (EV.index (EV.name (d := .list (parts.map dPs)) rfl (EV.name (d := .int k) rfl ⟨parts.map dPs, k, dPs p, .inl rfl, rfl, by omega, item_nat' (by rw [List.getElem?_map, hget]; rfl), AR.cons (EV.name (d := .int (col - rest.length)) rfl ?_)⟩))))))⟩)))
            refine AR.cons (EV.fill_way (EV.name (d := .fill col) rfl ⟨col, rfl, AR.cons (EV.cmp (EV.name (d := .int k) rfl (EV.binop (EV.callB (by decide) (by decide) (AR.cons (EV.name (d := .list (parts.map dPs)) rfl (AR.nil (CallOk.len_list lp (EV.int (OpOk.sub_int (OpOk.eq_int ?_))))))))))) ⟩))
            refine AR.nil ⟨(p, _, _), rfl, prow, OpOk.add_list (by rw [dI_length, dI_length]; exact sz20' (by omega)) ⟨(placeRows first rest (parts.take k)).map dL, [], List.Perm.refl _, ?_, rfl, EX.nil ⟨⟨rfl, rfl, rfl, rfl, rfl, rfl, rfl, trivial⟩, ?_⟩⟩⟩
            · rw [List.length_map, placeRows_length, List.length_take]; exact sz20' (by omega)
            · rw [htk, placeRows_snoc, hemp, List.map_append]
              simp [dL, dI]
        · rintro μ own ⟨hsub, rfl⟩
          rw [List.take_of_length_le (Nat.le_refl _)]
          refine EX.sub (μ' := ([("found", .mut a0)] : Mu)) ⟨hsub.2.2.2.2.2.1, trivial⟩ (EX.freeze (a := a0) (ds := (placeRows first rest parts).map dL) (μ' := ([("found", dR (placeRows first rest parts))] : Mu)) (List.Perm.refl _) hne0 ⟨.inr ⟨rfl, rfl⟩, trivial⟩ (EX.cons (EX1.ret (EV.name (d := dR (placeRows first rest parts)) rfl ?_))))
          show FlowD.ret _ = _
          rw [hdef]

end Fill66
end
noncomputable section
open PySem PySem.W PyProof.Rows
set_option maxRecDepth 100000
namespace Fill66

def rowSum (rs : List (List Int)) : Nat := (rs.map fun r => r.length + 1).sum
theorem rowSum_append (a b : List (List Int)) : rowSum (a ++ b) = rowSum a + rowSum b := by simp [rowSum]

theorem splitRows_ne (l : List Int) : splitRows l ≠ [] := by
  have gen : ∀ (l : List Int) (rows : List (List Int)), rows ≠ [] → l.foldl (fun rows c => if c == 10 then rows ++ [[]] else rows.dropLast ++ [rows.getLastD [] ++ [c]]) rows ≠ [] := by
    intro l
    induction l with
    | nil => intro rows h; exact h
    | cons c l ih =>
      intro rows h
      rw [List.foldl_cons]
      refine ih _ ?_
      split <;> simp
  exact gen l _ (by simp)

theorem list_snoc_induction {α : Type} {P : List α → Prop} (h0 : P []) (h1 : ∀ l a, P l → P (l ++ [a])) (l : List α) : P l := by
  have : ∀ n, ∀ l : List α, l.length = n → P l := by
    intro n
    induction n with
    | zero => intro l h; rw [List.length_eq_zero_iff.mp h]; exact h0
    | succ n ih =>
      intro l h
      have hne : l ≠ [] := fun e => by rw [e] at h; cases h
      rw [← List.dropLast_concat_getLast hne]
      exact h1 _ _ (ih _ (by rw [List.length_dropLast, h]; rfl))
  exact this _ l rfl

theorem splitRows_sum (l : List Int) : rowSum (splitRows l) = l.length + 1 := by
  induction l using list_snoc_induction with
  | h0 => rfl
  | h1 l c ih =>
    rw [splitRows_snoc]
    split
    · rw [rowSum_append, ih]; simp [rowSum]
    · have hne := splitRows_ne l
      have e : splitRows l = (splitRows l).dropLast ++ [(splitRows l).getLast hne] := (List.dropLast_concat_getLast hne).symm
      have e2 : (splitRows l).getLastD [] = (splitRows l).getLast hne := by rw [List.getLastD_eq_getLast?, List.getLast?_eq_some_getLast hne]; rfl
      rw [e2, rowSum_append]
      rw [e, rowSum_append] at ih
      simp only [rowSum, List.map_cons, List.map_nil, List.sum_cons, List.sum_nil, List.length_append, List.length_cons, List.length_nil] at ih ⊢
      omega

theorem splitRows_mem (l : List Int) : ∀ r ∈ splitRows l, ∀ c ∈ r, c ∈ l := by
  induction l using list_snoc_induction with
  | h0 => intro r hr c hc; have : r = [] := by simpa [splitRows] using hr
          subst this; cases hc
  | h1 l d ih =>
    rw [splitRows_snoc]
    intro r hr c hc
    split at hr
    · rcases List.mem_append.mp hr with hr | hr
      · exact List.mem_append_left _ (ih r hr c hc)
      · have : r = [] := by simpa using hr
        subst this; cases hc
    · have hne := splitRows_ne l
      have e2 : (splitRows l).getLastD [] = (splitRows l).getLast hne := by rw [List.getLastD_eq_getLast?, List.getLast?_eq_some_getLast hne]; rfl
      rw [e2] at hr
      rcases List.mem_append.mp hr with hr | hr
      · exact List.mem_append_left _ (ih r (List.dropLast_subset _ hr) c hc)
      · have : r = (splitRows l).getLast hne ++ [d] := by simpa using hr
        subst this
        rcases List.mem_append.mp hc with hc | hc
        · exact List.mem_append_left _ (ih _ (List.getLast_mem hne) c hc)
        · exact List.mem_append_right _ hc

theorem rowSum_mem {rs : List (List Int)} {r : List Int} (h : r ∈ rs) : r.length + 1 ≤ rowSum rs := by
  induction rs with
  | nil => cases h
  | cons a t ih =>
    have : rowSum (a :: t) = a.length + 1 + rowSum t := by simp [rowSum]
    rcases List.mem_cons.mp h with rfl | h
    · omega
    · have := ih h; omega
theorem rowSum_length (rs : List (List Int)) : rs.length ≤ rowSum rs := by
  induction rs with
  | nil => exact Nat.le_refl _
  | cons a t ih =>
    have : rowSum (a :: t) = a.length + 1 + rowSum t := by simp [rowSum]
    rw [List.length_cons]; omega

theorem wordsOfRows_length (f r : List Int) (rows : List (List Int)) : (wordsOfRows f r rows).length ≤ rowSum rows := by
  cases rows with
  | nil => exact Nat.zero_le _
  | cons a t =>
    have gen : ∀ (t : List (List Int)) (w : List Int), (t.foldl (fun w x => w ++ 10 :: x.drop r.length) w).length ≤ w.length + rowSum t := by
      intro t
      induction t with
      | nil => intro w; simp [rowSum]
      | cons b t ih =>
        intro w
        have e : rowSum (b :: t) = b.length + 1 + rowSum t := by simp [rowSum]
        have := ih (w ++ 10 :: b.drop r.length)
        simp only [List.foldl_cons, List.length_append, List.length_cons, List.length_drop] at this ⊢
        omega
    have := gen t (a.drop f.length)
    have e : rowSum (a :: t) = a.length + 1 + rowSum t := by simp [rowSum]
    show (t.foldl (fun w x => w ++ 10 :: x.drop r.length) (a.drop f.length)).length ≤ _
    rw [List.length_drop] at this
    omega

theorem joinedRows_length (rs : List (List Int)) : rs ≠ [] → (joinedRows rs).length + 1 = rowSum rs := by
  induction rs with
  | nil => intro h; exact absurd rfl h
  | cons a t ih =>
    intro _
    have e : rowSum (a :: t) = a.length + 1 + rowSum t := by simp [rowSum]
    cases t with
    | nil => simp [joinedRows, rowSum]
    | cons b t =>
      have := ih (by simp)
      have e2 : joinedRows (a :: b :: t) = a ++ 10 :: joinedRows (b :: t) := rfl
      rw [e, ← this, e2, List.length_append, List.length_cons]; omega

def fillAt (col : Int) (rows : List (List Int)) (k : Nat) : List (List Int) × List (List Int) := (rows.take k).foldl (fillStep col) ([], [])
theorem fillAt_succ {col : Int} {rows : List (List Int)} {k : Nat} {r : List Int} (h : rows[k]? = some r) : fillAt col rows (k + 1) = fillStep col (fillAt col rows k) r := by
  unfold fillAt
  rw [List.take_add_one, h, List.foldl_append]; rfl
theorem fillAt_suffix (col : Int) (rows : List (List Int)) (k : Nat) : (fillAt col rows k).2 <:+ rows.take k := by
  induction k with
  | zero => simp [fillAt]
  | succ k ih =>
    cases h : rows[k]? with
    | none =>
      have hk : rows.length ≤ k := by simpa using h
      have e : rows.take (k + 1) = rows.take k := by rw [List.take_of_length_le hk, List.take_of_length_le (by omega)]
      unfold fillAt at ih ⊢
      rw [e]; exact ih
    | some r =>
      rw [fillAt_succ h, List.take_add_one, h]
      unfold fillStep
      split
      · simp
      · obtain ⟨t, ht⟩ := ih
        exact ⟨t, by rw [← ht]; simp⟩
theorem fillStep_prefix (col : Int) (st : List (List Int) × List (List Int)) (r : List Int) : st.1 <+: (fillStep col st r).1 := by
  unfold fillStep
  split
  · split
    · exact List.prefix_append _ _
    · show st.1 <+: (st.1 ++ filledPara col st.2) ++ [r]
      rw [List.append_assoc]; exact List.prefix_append _ _
  · exact List.prefix_refl _
theorem foldl_prefix (col : Int) : ∀ (rows : List (List Int)) (st : List (List Int) × List (List Int)), st.1 <+: (rows.foldl (fillStep col) st).1
  | [], st => List.prefix_refl _
  | r :: rows, st => (fillStep_prefix col st r).trans (foldl_prefix col rows _)
theorem fillAt_prefix (col : Int) (rows : List (List Int)) (k : Nat) : (fillAt col rows k).1 <+: fillRows col rows := by
  have e : rows.foldl (fillStep col) ([], []) = (rows.drop k).foldl (fillStep col) (fillAt col rows k) := by
    unfold fillAt
    rw [← List.foldl_append, List.take_append_drop]
  unfold fillRows
  rw [e]
  have h := foldl_prefix col (rows.drop k) (fillAt col rows k)
  simp only
  split
  · exact h
  · exact h.trans (List.prefix_append _ _)

/-- what a fill asks of its text -/
def TextOk (col : Int) (codes : List Int) : Prop := codes.length ≤ 2 ^ 19 ∧ (9 : Int) ∉ codes ∧ (filledText col codes).length ≤ 2 ^ 19

theorem rows_ok {codes : List Int} {rows : List (List Int)} (hs : rows = splitRows codes) (hl : codes.length ≤ 2 ^ 19) (h9 : (9 : Int) ∉ codes) {sub : List (List Int)} (hsub : ∀ r ∈ sub, r ∈ rows) (hsum : rowSum sub ≤ rowSum rows) (hne : sub ≠ []) :
    RowsOk sub ∧ (wordsOfRows (leadsOf sub).1 (leadsOf sub).2 sub).length ≤ 2 ^ 20 ∧ ∀ r ∈ sub, (9 : Int) ∉ r := by
  subst hs
  rw [splitRows_sum] at hsum
  refine ⟨⟨hne, Nat.le_trans (rowSum_length sub) (by omega), fun r hr => ?_⟩, Nat.le_trans (wordsOfRows_length _ _ _) (by omega), fun r hr h => h9 (splitRows_mem codes r (hsub r hr) _ h)⟩
  have := rowSum_mem hr
  omega

theorem fn_filled_text : FN 36 4 ["codes", "filling"] (fun q : List Int × Int => [dL q.1, .fill q.2]) (fun q => TextOk q.2 q.1) (fun q => dL (filledText q.2 q.1)) where
  binds := ⟨by decide, (fun vs pm code doc h => match vs, h with | [_, _], _ => rfl), by decide, rfl, rfl, rfl, by decide⟩
  isDef := rfl
  len := fun _ => rfl
  walk := fun x L a cd ⟨codes, col⟩ hk hl ⟨hlen, h9, hout⟩ => by
    simp only at hlen h9 hout
    have hsum := splitRows_sum codes
    obtain ⟨rows, hrows⟩ : ∃ r, r = splitRows codes := ⟨_, rfl⟩
    rw [← hrows] at hsum
    have hfd : filledText col codes = joinedRows (fillRows col rows) := by rw [hrows]; rfl
    rw [hfd] at hout
    have hrl : rows.length ≤ 2 ^ 20 := by have := rowSum_length rows; omega
    have hfl : (fillRows col rows).length ≤ 2 ^ 20 := by
      by_cases h : fillRows col rows = []
      · rw [h]; exact Nat.zero_le _
      · have := joinedRows_length _ h
        have := rowSum_length (fillRows col rows)
        omega
    have hfm : ∀ r ∈ fillRows col rows, r.length ≤ 2 ^ 20 := fun r hr => by
      have := joinedRows_length _ (List.ne_nil_of_mem hr)
      have := rowSum_mem hr
      omega
    have para : ∀ k, (fillAt col rows k).2 ≠ [] → (∀ r ∈ filledPara col (fillAt col rows k).2, r ∈ fillRows col rows) → (filledPara col (fillAt col rows k).2).length ≤ (fillRows col rows).length → ParaOk col (fillAt col rows k).2 := fun k hne hm hl2 => by
      obtain ⟨t, ht⟩ := fillAt_suffix col rows k
      obtain ⟨p1, p2, p3⟩ := rows_ok hrows hlen h9 (sub := (fillAt col rows k).2) (fun r hr => List.mem_of_mem_take (by rw [← ht]; exact List.mem_append_right _ hr)) (by
        have e : rows = t ++ (fillAt col rows k).2 ++ rows.drop k := by rw [ht, List.take_append_drop]
        have := congrArg rowSum e
        rw [rowSum_append, rowSum_append] at this
        omega) hne
      exact ⟨p1, p2, p3, Nat.le_trans hl2 hfl, fun r hr => hfm r (hm r hr)⟩
    refine EX.cons (EX1.assign (EV.listOwn (AR.nil ⟨sz20' (by decide), fun a0 ha hne0 => ?_⟩)))
    refine EX.cons (EX1.assign (EV.listOwn (AR.nil ⟨sz20' (by decide), fun b0 hb0 hneb => ?_⟩)))
    refine EX.cons (EX1.forL (EV.callF fn_split_rows (by omega) (AR.cons (EV.name (d := dL codes) rfl (AR.nil ⟨codes, rfl, by omega, (splitRows codes).map dL, rfl, ?_⟩)))))
    rw [← hrows]
    refine ⟨fun k μ own => ∃ b : Addr, x.lent ≠ some b ∧ MuSub ([("filling", .fill col), ("found", .mut a0), ("paragraph", .mut b)] : Mu) μ ∧ own.Perm [(a0, .lst ((fillAt col rows k).1.map dL)), (b, .lst ((fillAt col rows k).2.map dL))],
      ⟨b0, hneb, ⟨rfl, rfl, rfl, trivial⟩, List.Perm.swap _ _ _⟩, ?_, ?_⟩
    · rintro k e μ own he ⟨b, hne, hsub, hp⟩
      rw [List.getElem?_map] at he
      obtain ⟨r, hr, rfl⟩ := Option.map_eq_some_iff.mp he
      have hstep := fillAt_succ (col := col) hr
      have hpre := fillAt_prefix col rows (k + 1)
      have hpre0 := fillAt_prefix col rows k
      have hrlen : r.length ≤ 2 ^ 20 := by
        have := rowSum_mem (List.mem_of_getElem? hr); omega
      have hl2 : (fillAt col rows k).2.length ≤ 2 ^ 20 := by
        obtain ⟨t, ht⟩ := fillAt_suffix col rows k
        have := congrArg List.length ht
        rw [List.length_append, List.length_take] at this
        omega
      have hl1 : (fillAt col rows k).1.length ≤ 2 ^ 20 := Nat.le_trans hpre0.length_le hfl
      have par := para k
      obtain ⟨st, hst⟩ : ∃ st, st = fillAt col rows k := ⟨_, rfl⟩
      rw [← hst] at hstep hp hl1 hl2 par
      have lrow : (dI r).length ≤ sizeLine := by rw [dI_length]; exact sz20' hrlen
      refine AS.name (EX.sub (μ' := ([("filling", .fill col), ("found", .mut a0), ("paragraph", .mut b), ("row", dL r)] : Mu)) ⟨by rw [Mu.get_set]; exact hsub.1, by rw [Mu.get_set]; exact hsub.2.1, by rw [Mu.get_set]; exact hsub.2.2.1, by rw [Mu.get_set]; rfl, trivial⟩ ?_)
      refine EX.ownPerm hp ?_
      refine EX.cons (EX1.if_ (TS.cmp (EV.callB (by decide) (by decide) (AR.cons (EV.callF fn_lead_of (by omega) (AR.cons (EV.name (d := dL r) rfl (AR.cons (EV.name (d := .fill col) rfl (AR.nil ⟨(r, col), rfl, hrlen, AR.nil (CallOk.len_list (by rw [dI_length]; exact sz20' (Nat.le_trans (leadOf_length r) hrlen)) ?_)⟩))))))))))
      refine EV.callB (by decide) (by decide) (AR.cons (EV.name (d := dL r) rfl (AR.nil (CallOk.len_list lrow (OpOk.eq_int ⟨_, rfl, fun b1 => ?_, fun b1 => ?_⟩)))))
      · rw [dI_length, dI_length] at b1
        have hc : ((leadOf r).length == r.length) = true := by simp at b1 ⊢; omega
        unfold fillStep at hstep
        rw [if_pos hc] at hstep
        have mb : (b, Cell.lst (st.2.map dL)) ∈ [(a0, Cell.lst (st.1.map dL)), (b, Cell.lst (st.2.map dL))] := List.mem_cons_of_mem _ List.mem_cons_self
        refine EX.cons (EX1.if_ (TS.cmp (EV.callB (by decide) (by decide) (AR.cons (EV.name (d := .mut b) rfl (AR.nil (CallOk.len_mut mb (by rw [List.length_map]; exact sz20' hl2) (EV.int (OpOk.gt_int ⟨_, rfl, fun b2 => ?_, fun b2 => EX.nil ?_⟩)))))))))
        · rw [List.length_map] at b2
          have hne2 : st.2 ≠ [] := fun e => by rw [e] at b2; simp at b2
          have hemp : st.2.isEmpty = false := List.isEmpty_eq_false_iff.mpr hne2
          rw [hemp] at hstep
          simp only [Bool.false_eq_true, if_false] at hstep
          rw [hstep] at hpre
          have hpl := hpre.length_le
          simp only [List.length_append, List.length_singleton] at hpl
          have hpok := par hne2 (fun r hr => hpre.subset (by simp [hr])) (by omega)
          refine EX.freeze (a := b) (ds := st.2.map dL) (μ' := ([("filling", .fill col), ("found", .mut a0), ("paragraph", dR st.2), ("row", dL r)] : Mu)) (own' := [(a0, .lst (st.1.map dL))]) (List.Perm.swap _ _ _) hne ⟨.inl rfl, .inl rfl, .inr ⟨rfl, rfl⟩, .inl rfl, trivial⟩ ?_
          refine EX.cons (EX1.expr (EV.extend (EV.name (d := .mut a0) rfl ⟨a0, _, [], rfl, List.Perm.refl _, EV.callF fn_filled_paragraph (by omega) (AR.cons (EV.name (d := dR st.2) rfl (AR.cons (EV.name (d := .fill col) rfl (AR.nil ⟨(st.2, col), rfl, hpok, st.1.map dL, (filledPara col st.2).map dL, [], rfl, List.Perm.refl _, ?_, rfl, ?_⟩)))))⟩)))
          · rw [List.length_map, List.length_map]; exact sz20' (by omega)
          refine EX.cons (EX1.assign (EV.listOwn (AR.nil ⟨sz20' (by decide), fun b2 hb2 hneb2 => EX.nil ?_⟩)))
          refine EX.cons (EX1.expr (EV.append (EV.name (d := .mut a0) rfl ⟨a0, _, [(b2, .lst [])], rfl, List.Perm.swap _ _ _, EV.name (d := dL r) rfl ⟨st.1.map dL ++ (filledPara col st.2).map dL, [(b2, .lst [])], List.Perm.swap _ _ _, ?_, rfl, EX.nil (EX.nil ⟨b2, hneb2, ⟨rfl, rfl, rfl, trivial⟩, ?_⟩)⟩⟩)))
          · rw [List.length_append, List.length_map, List.length_map]; exact sz20' (by omega)
          · rw [hstep]
            simp
        · rw [List.length_map] at b2
          have he2 : st.2 = [] := by
            cases h : st.2 with
            | nil => rfl
            | cons a t => rw [h] at b2; simp at b2
          rw [he2] at hstep
          simp only [List.isEmpty_nil, if_true] at hstep
          refine (EX.cons (EX1.expr (EV.append (EV.name (d := .mut a0) rfl ⟨a0, _, [(b, .lst (st.2.map dL))], rfl, List.Perm.refl _, EV.name (d := dL r) rfl ⟨st.1.map dL, [(b, .lst (st.2.map dL))], List.Perm.refl _, ?_, rfl, EX.nil (EX.nil ⟨b, hne, ⟨rfl, rfl, rfl, trivial⟩, ?_⟩)⟩⟩))))
          · rw [List.length_map]; exact sz20' hl1
          · rw [hstep, he2]
            simp
      · rw [dI_length, dI_length] at b1
        have hc : ((leadOf r).length == r.length) = false := by simp at b1 ⊢; omega
        unfold fillStep at hstep
        rw [hc, if_neg Bool.false_ne_true] at hstep
        refine EX.cons (EX1.expr (EV.append (EV.name (d := .mut b) rfl ⟨b, _, [(a0, .lst (st.1.map dL))], rfl, List.Perm.swap _ _ _, EV.name (d := dL r) rfl ⟨st.2.map dL, [(a0, .lst (st.1.map dL))], List.Perm.swap _ _ _, ?_, rfl, EX.nil (EX.nil ⟨b, hne, ⟨rfl, rfl, rfl, trivial⟩, ?_⟩)⟩⟩)))
        · rw [List.length_map]; exact sz20' hl2
        · rw [hstep]
          simp only [List.map_append]
          exact List.Perm.swap _ _ _
    · rintro μ own ⟨b, hne, hsub, hp⟩
      rw [List.length_map] at hp
      have hst : fillAt col rows rows.length = rows.foldl (fillStep col) ([], []) := by unfold fillAt; rw [List.take_of_length_le (Nat.le_refl _)]
      have hfr : fillRows col rows = if (fillAt col rows rows.length).2.isEmpty then (fillAt col rows rows.length).1 else (fillAt col rows rows.length).1 ++ filledPara col (fillAt col rows rows.length).2 := by
        rw [hst]; rfl
      have par := para rows.length
      have hl2 : (fillAt col rows rows.length).2.length ≤ 2 ^ 20 := by
        obtain ⟨t, ht⟩ := fillAt_suffix col rows rows.length
        have := congrArg List.length ht
        rw [List.length_append, List.length_take] at this
        omega
      have hl1 : (fillAt col rows rows.length).1.length ≤ 2 ^ 20 := Nat.le_trans (fillAt_prefix col rows rows.length).length_le hfl
      generalize fillAt col rows rows.length = st at hp hfr par hl1 hl2
      have tail : EX x (envOf (dr 36).name (dr 36).scope L a cd) ([("found", .mut a0)] : Mu) [(a0, .lst ((fillRows col rows).map dL))] ([(dr 36).body.getLastD (.Pass default)]) (fun fd _ _ => fd = .ret (dL (filledText col codes))) := by
        refine EX.freeze (a := a0) (ds := (fillRows col rows).map dL) (μ' := ([("found", dR (fillRows col rows))] : Mu)) (List.Perm.refl _) hne0 ⟨.inr ⟨rfl, rfl⟩, trivial⟩ (EX.cons (EX1.ret (EV.callF fn_joined_rows (by omega) (AR.cons (EV.name (d := dR (fillRows col rows)) rfl (AR.nil ⟨fillRows col rows, rfl, ⟨hfl, by omega⟩, ?_⟩))))))
        show FlowD.ret _ = _
        rw [hfd]
      refine EX.sub hsub (EX.ownPerm hp ?_)
      have mb : (b, Cell.lst (st.2.map dL)) ∈ [(a0, Cell.lst (st.1.map dL)), (b, Cell.lst (st.2.map dL))] := List.mem_cons_of_mem _ List.mem_cons_self
      refine EX.cons (EX1.if_ (TS.cmp (EV.callB (by decide) (by decide) (AR.cons (EV.name (d := .mut b) rfl (AR.nil (CallOk.len_mut mb (by rw [List.length_map]; exact sz20' hl2) (EV.int (OpOk.gt_int ⟨_, rfl, fun b2 => ?_, fun b2 => EX.nil ?_⟩)))))))))
      · rw [List.length_map] at b2
        have hne2 : st.2 ≠ [] := fun e => by rw [e] at b2; simp at b2
        have hemp : st.2.isEmpty = false := List.isEmpty_eq_false_iff.mpr hne2
        rw [hemp] at hfr
        simp only [Bool.false_eq_true, if_false] at hfr
        have hfl' := hfl
        rw [hfr, List.length_append] at hfl'
        have hpok := par hne2 (fun r hr => by rw [hfr]; exact List.mem_append_right _ hr) (by rw [hfr, List.length_append]; omega)
        refine EX.freeze (a := b) (ds := st.2.map dL) (μ' := ([("filling", .fill col), ("found", .mut a0), ("paragraph", dR st.2)] : Mu)) (own' := [(a0, .lst (st.1.map dL))]) (List.Perm.swap _ _ _) hne ⟨.inl rfl, .inl rfl, .inr ⟨rfl, rfl⟩, trivial⟩ ?_
        refine EX.cons (EX1.expr (EV.extend (EV.name (d := .mut a0) rfl ⟨a0, _, [], rfl, List.Perm.refl _, EV.callF fn_filled_paragraph (by omega) (AR.cons (EV.name (d := dR st.2) rfl (AR.cons (EV.name (d := .fill col) rfl (AR.nil ⟨(st.2, col), rfl, hpok, st.1.map dL, (filledPara col st.2).map dL, [], rfl, List.Perm.refl _, ?_, rfl, EX.nil ?_⟩)))))⟩)))
        · rw [List.length_map, List.length_map]; exact sz20' hfl'
        · rw [hfr, List.map_append] at tail
          exact EX.sub (μ' := ([("found", .mut a0)] : Mu)) ⟨rfl, trivial⟩ tail
      · rw [List.length_map] at b2
        have he2 : st.2 = [] := by
          cases h : st.2 with
          | nil => rfl
          | cons a t => rw [h] at b2; simp at b2
        rw [he2] at hfr
        simp only [List.isEmpty_nil, if_true] at hfr
        rw [hfr] at tail
        refine EX.sub (μ' := ([("found", .mut a0)] : Mu)) ⟨rfl, trivial⟩ ?_
        intro fr g s Q E w kk
        refine tail fr g s Q E (w.ownSub (fun p hp => ?_) ?_) kk
        · rcases List.mem_append.mp hp with hp | hp
          · obtain rfl : p = _ := by simpa using hp
            exact List.mem_append_left _ List.mem_cons_self
          · exact List.mem_append_right _ hp
        · have := w.nodup
          simp only [List.map_append, List.map_cons, List.map_nil] at this ⊢
          exact this.sublist (by simp)

theorem fn_is_filled : FN 37 5 ["codes", "filling"] (fun q : List Int × Int => [dL q.1, .fill q.2]) (fun q => TextOk q.2 q.1) (fun q => .bool (decide (filledText q.2 q.1 = q.1))) where
  binds := ⟨by decide, (fun vs pm code doc h => match vs, h with | [_, _], _ => rfl), by decide, rfl, rfl, rfl, by decide⟩
  isDef := rfl
  len := fun _ => rfl
  walk := fun x L a cd ⟨codes, col⟩ hk hl h => by
    exact EX.cons (EX1.ret (EV.cmp (EV.callF fn_filled_text (by omega) (AR.cons (EV.name (d := dL codes) rfl (AR.cons (EV.name (d := .fill col) rfl (AR.nil ⟨(codes, col), rfl, h, EV.name (d := dL codes) rfl (OpOk.eq_ints rfl)⟩))))))))

end Fill66
end
noncomputable section
open PySem PySem.W PyProof.Rows
set_option maxRecDepth 100000
namespace Fill66

theorem intBits_small {a : Int} (h : a.natAbs < 2 ^ 60) : PySem.Builtin.Int.intBits a ≤ 64 := by
  unfold PySem.Builtin.Int.intBits
  by_cases h0 : a.natAbs = 0
  · have : a = 0 := by omega
    subst this; decide
  · have := (Nat.log2_lt h0).mpr h
    split <;> omega
theorem mulOk {a b : Int} (h : a.natAbs < 2 ^ 60) : IntMulOk a b := IntMulOk.of_left (intBits_small h)
theorem divOk {a b : Int} (h : b.natAbs < 2 ^ 60) : PySem.Builtin.divisionGoesByPylong a b = false := by
  unfold PySem.Builtin.divisionGoesByPylong
  have : (if (b == 0) = true then 0 else b.natAbs.log2 / 30 + 1) ≤ 10 := by
    by_cases h0 : b.natAbs = 0
    · have : b = 0 := by omega
      subst this; decide
    · have := (Nat.log2_lt h0).mpr h
      split <;> omega
  simp only [Bool.and_eq_false_imp, decide_eq_true_eq]
  intro h1
  omega

/-- the deck -/
def DK (cells : List Int) (n : Nat) : List D := [.list (dI cells), .int n]
def DeckOk (cells : List Int) (n : Nat) : Prop := (∀ c ∈ cells, 0 ≤ c) ∧ cells.length ≤ 63 ∧ n ≤ 2000

theorem fn_law_draw : FNR 39 0 ["deck", "many"] (fun q : List Int × Nat × Nat => DK q.1 q.2.1) (fun q => [.int q.2.2]) (fun q => DeckOk q.1 q.2.1 ∧ 0 < q.2.2 ∧ q.2.2 ≤ 1000) (fun q d c => c = DK q.1 (q.2.1 + 1) ∧ ∃ r : Nat, r < q.2.2 ∧ d = .int r) where
  binds := ⟨by decide, (fun vs pm code doc h => match vs, h with | [_, _], _ => rfl), by decide, rfl, rfl, rfl, by decide⟩
  isDef := rfl
  len := fun _ => rfl
  walk := fun x L a cd a₀ ⟨cells, n, many⟩ hk hl ⟨⟨hpos, hlen, hn⟩, hm, hm2⟩ => by
    simp only at hpos hlen hn hm hm2
    have pos : ∀ z : Int, 0 ≤ z → ∃ r : Nat, r < many ∧ D.int (z.fmod many) = .int r := fun z hz => by
      rw [Int.fmod_eq_emod_of_nonneg z (by omega : (0 : Int) ≤ many)]
      have h1 := Int.emod_nonneg z (b := many) (by omega)
      have h2 := Int.emod_lt_of_pos z (b := (many : Int)) (by omega)
      exact ⟨(z % many).toNat, by omega, by rw [Int.toNat_of_nonneg h1]⟩
    refine EX.cons (EX1.setItem (EV.binop (EV.indexMut (EV.name (d := .mut a₀) rfl (EV.int ⟨a₀, DK cells n, 1, .int n, rfl, List.mem_singleton.mpr rfl, rfl, by omega, rfl, EV.int (OpOk.add_int (EV.name (d := .mut a₀) rfl (EV.int ⟨a₀, DK cells n, [], 1, rfl, List.Perm.refl _, rfl, Nat.lt_succ_self 1, lit_sizeLine (show 2 ≤ 2 ^ 21 by decide), ?_⟩)))⟩)))))
    have e : (DK cells n).set 1 (.int ((n : Int) + 1)) = DK cells (n + 1) := rfl
    rw [e]
    refine EX.cons (EX1.if_ (TS.cmp (EV.indexMut (EV.name (d := .mut a₀) rfl (EV.int ⟨a₀, DK cells (n + 1), 1, .int (n + 1 : Nat), rfl, List.mem_singleton.mpr rfl, rfl, by omega, rfl, ?_⟩)))))
    refine EV.callB (by decide) (by decide) (AR.cons (EV.indexMut (EV.name (d := .mut a₀) rfl (EV.int ⟨a₀, DK cells (n + 1), 0, .list (dI cells), rfl, List.mem_singleton.mpr rfl, rfl, by omega, rfl, AR.nil (CallOk.len_list (by rw [dI_length]; exact lit_sizeLine (by omega)) (OpOk.le_int ⟨_, rfl, fun b1 => ?_, fun b1 => ?_⟩))⟩))))
    · rw [dI_length] at b1
      have hlt : n < cells.length := by simp at b1; omega
      obtain ⟨c, hc⟩ : ∃ c, cells[n]? = some c := ⟨cells[n], List.getElem?_eq_getElem hlt⟩
      refine EX.cons (EX1.ret (EV.binop (EV.index (EV.indexMut (EV.name (d := .mut a₀) rfl (EV.int ⟨a₀, DK cells (n + 1), 0, .list (dI cells), rfl, List.mem_singleton.mpr rfl, rfl, by omega, rfl, ?_⟩))))))
      refine EV.binop (EV.indexMut (EV.name (d := .mut a₀) rfl (EV.int ⟨a₀, DK cells (n + 1), 1, .int (n + 1 : Nat), rfl, List.mem_singleton.mpr rfl, rfl, by omega, rfl, EV.int (OpOk.sub_int ⟨dI cells, _, .int c, .inl rfl, rfl, by omega, ?_, ?_⟩)⟩)))
      · unfold itemAt
        have e2 : (((n + 1 : Nat) : Int) - 1).toNat = n := by omega
        rw [if_pos (by omega), e2, dI_get, hc]; rfl
      · refine EV.name (d := .int many) rfl (OpOk.mod_int (by omega) ?_)
        refine ⟨_, DK cells (n + 1), rfl, List.mem_singleton.mpr rfl, rfl, pos c (hpos c (List.mem_of_getElem? hc))⟩
    · have idx : ∀ {y : Cx} {P : D → Own → Prop} {vp kp cp pos}, P (.int (n + 1 : Nat)) [(a₀, .lst (DK cells (n + 1)))] → EV y (envOf (dr 39).name (dr 39).scope L a cd) ([("deck", .mut a₀), ("many", .int many)] : Mu) [(a₀, .lst (DK cells (n + 1)))] (.Subscript (.Name "deck" vp) (.Constant (.int 1) kp cp) pos) P := fun h =>
        EV.indexMut (EV.name (d := .mut a₀) rfl (EV.int ⟨a₀, DK cells (n + 1), 1, .int (n + 1 : Nat), rfl, List.mem_singleton.mpr rfl, rfl, by omega, rfl, h⟩))
      have sm : ((n + 1 : Nat) : Int) * ((n + 1 : Nat) : Int) ≤ 2001 * 2001 := Int.mul_le_mul (by omega) (by omega) (by omega) (by omega)
      have sp : 0 ≤ ((n + 1 : Nat) : Int) * ((n + 1 : Nat) : Int) := Int.mul_nonneg (by omega) (by omega)
      refine EX.nil (EX.cons (EX1.ret (EV.binop (EV.binop (EV.binop (EV.binop (EV.binop (EV.binop (idx (idx (OpOk.mul_int (mulOk (by omega)) (EV.int (OpOk.mul_int (mulOk (by omega)) ?_)))))))))))))
      refine EV.binop (EV.int (idx (OpOk.mul_int (mulOk (by decide)) (OpOk.add_int ?_))))
      refine EV.binop (EV.int (EV.callB (by decide) (by decide) (AR.cons (EV.indexMut (EV.name (d := .mut a₀) rfl (EV.int ⟨a₀, DK cells (n + 1), 0, .list (dI cells), rfl, List.mem_singleton.mpr rfl, rfl, by omega, rfl, AR.nil (CallOk.len_list (by rw [dI_length]; exact lit_sizeLine (by omega)) ?_)⟩))))))
      refine OpOk.mul_int (mulOk (by decide)) (OpOk.add_int (EV.int (OpOk.div_int (by decide) (divOk (by decide)) (EV.name (d := .int many) rfl (OpOk.mod_int (by omega) ?_)))))
      refine ⟨_, DK cells (n + 1), rfl, List.mem_singleton.mpr rfl, rfl, pos _ ?_⟩
      rw [Int.fdiv_eq_ediv_of_nonneg _ (by decide)]
      exact Int.ediv_nonneg (by omega) (by decide)
end Fill66
end
noncomputable section
open PySem PySem.W PyProof.Rows
set_option maxRecDepth 100000
namespace Fill66

theorem fn_law_words : FNR 40 1 ["deck", "has_stops"] (fun q : List Int × Nat × Bool => DK q.1 q.2.1) (fun q => [.bool q.2.2]) (fun q => DeckOk q.1 q.2.1 ∧ q.2.1 ≤ 1000)
    (fun q d c => ∃ (ws : List (List Int)) (n' : Nat), c = DK q.1 n' ∧ n' ≤ q.2.1 + 11 ∧ d = .list (dS (ws.map S)) ∧ ws ≠ [] ∧ ws.length ≤ 5 ∧ ∀ w ∈ ws, Word q.2.2 w) where
  binds := ⟨by decide, (fun vs pm code doc h => match vs, h with | [_, _], _ => rfl), by decide, rfl, rfl, rfl, by decide⟩
  isDef := rfl
  len := fun _ => rfl
  walk := fun x L a cd a₀ ⟨cells, n, st⟩ hk hl ⟨⟨hpos, hlen, hn⟩, hn2⟩ => by
    simp only at hpos hlen hn hn2
    refine EX.cons (EX1.assign (EV.listOwn (AR.nil ⟨lit_sizeLine (by decide), fun b hb hneb => ?_⟩)))
    refine EX.cons (EX1.for_ (IT.range (EV.binop (EV.int (EV.callR fn_law_draw (by omega) (AR.cons (EV.name (d := .mut a₀) rfl (AR.cons (EV.int (AR.nil ⟨a₀, [(b, .lst [])], (cells, n, 5), rfl, List.Perm.swap _ _ _, ⟨⟨hpos, hlen, hn⟩, show 0 < 5 by decide, show 5 ≤ 1000 by decide⟩, ?_⟩))))))))))
    rintro d c' ⟨rfl, r, hr, rfl⟩
    have hr5 : r < 5 := hr
    refine OpOk.add_int ⟨1 + r, by rw [Int.natCast_add]; rfl, by omega, ?_⟩
    refine ⟨fun k μ own => ∃ (ws : List (List Int)) (n' : Nat), MuSub ([("deck", .mut a₀), ("has_stops", .bool st), ("found", .mut b)] : Mu) μ ∧ own.Perm [(a₀, .lst (DK cells n')), (b, .lst (dS (ws.map S)))] ∧ ws.length = k ∧ n' ≤ n + 1 + 2 * k ∧ ∀ w ∈ ws, Word st w,
      ⟨[], n + 1, ⟨rfl, rfl, rfl, trivial⟩, List.Perm.refl _, rfl, by omega, nofun⟩, ?_, ?_⟩
    · rintro k μ own hk2 ⟨ws, n', hsub, hp, hws, hn', hw⟩
      refine AS.name (EX.sub (μ' := ([("deck", .mut a₀), ("has_stops", .bool st), ("found", .mut b)] : Mu)) ⟨by rw [Mu.get_set]; exact hsub.1, by rw [Mu.get_set]; exact hsub.2.1, by rw [Mu.get_set]; exact hsub.2.2.1, trivial⟩ (EX.ownPerm hp ?_))
      have hr' : r < 5 := hr
      refine EX.cons (EX1.assign (EV.strSlice (EV.str ⟨_, rfl, lit_sizeLine (show (7 : Nat) ≤ 2 ^ 21 by decide), PT.zero (PT.one (EV.binop (EV.int (EV.callR fn_law_draw (by omega) (AR.cons (EV.name (d := .mut a₀) rfl (AR.cons (EV.int (AR.nil ⟨a₀, [(b, .lst (dS (ws.map S)))], (cells, n', 6), rfl, List.Perm.refl _, ⟨⟨hpos, hlen, by simp only; omega⟩, show 0 < 6 by decide, show 6 ≤ 1000 by decide⟩, ?_⟩)))))))))⟩)))
      rintro d c' ⟨rfl, r2, hr2, rfl⟩
      have hr2' : r2 < 6 := hr2
      refine OpOk.add_int ⟨1 + r2, by rw [Int.natCast_add]; rfl, ?_⟩
      have e1 : Txt.slice "abcdefg" (partZ none) (partZ (some (1 + r2))) = S (lettersN (1 + r2)) := slice_letters r2 hr2
      rw [e1]
      have hl1 := lettersN_length (k := 1 + r2) (by omega)
      refine EX.cons (EX1.expr (EV.append (EV.name (d := .mut b) rfl ⟨b, _, [(a₀, .lst (DK cells (n' + 1)))], rfl, List.Perm.swap _ _ _, EV.binop (EV.name (d := .str (S (lettersN (1 + r2)))) rfl (EV.ifexp (TS.boolop (TA.and (TS.value (EV.name (d := .bool st) rfl ⟨st, rfl, fun hst => ?_, fun hst => ⟨nofun, fun _ => ?_⟩⟩))))))⟩)))
      · refine TA.and (TS.cmp (EV.callR fn_law_draw (by omega) (AR.cons (EV.name (d := .mut a₀) rfl (AR.cons (EV.int (AR.nil ⟨a₀, [(b, .lst (dS (ws.map S)))], (cells, n' + 1, 4), rfl, List.Perm.refl _, ⟨⟨hpos, hlen, by simp only; omega⟩, show 0 < 4 by decide, show 4 ≤ 1000 by decide⟩, ?_⟩)))))))
        rintro d c' ⟨rfl, r3, hr3, rfl⟩
        refine EV.int (OpOk.eq_int ⟨_, rfl, fun b2 => TA.andNil ⟨fun _ => ?_, nofun⟩, fun b2 => ⟨nofun, fun _ => ?_⟩⟩)
        ·
          refine EV.str (OpOk.add_str (lit_sizeLine (by rw [S_length, hl1]; show _ + 1 ≤ _; omega)) ⟨dS (ws.map S), [(a₀, .lst (DK cells (n' + 2)))], List.Perm.swap _ _ _, lit_sizeLine (by simp only [dS, List.length_map]; omega), rfl, EX.nil ⟨ws ++ [lettersN (1 + r2) ++ [46]], n' + 2, ⟨rfl, rfl, rfl, trivial⟩, ?_, by rw [List.length_append, hws]; rfl, by omega, ?_⟩⟩)
          · simp only [dS, List.map_append, List.map_cons, List.map_nil]
            have e2 : S (lettersN (1 + r2) ++ [46]) = S (lettersN (1 + r2)) ++ "." := by rw [S_append, S_dot]
            rw [e2]
            exact List.Perm.swap _ _ _
          · intro w hw'
            rcases List.mem_append.mp hw' with hw' | hw'
            · exact hw w hw'
            · obtain rfl := List.mem_singleton.mp hw'
              exact ⟨1 + r2, by omega, by omega, .inr ⟨hst, rfl⟩⟩
        ·
          refine EV.str (OpOk.add_str (lit_sizeLine (by rw [S_length, hl1]; show _ + 0 ≤ _; omega)) ⟨dS (ws.map S), [(a₀, .lst (DK cells (n' + 2)))], List.Perm.swap _ _ _, lit_sizeLine (by simp only [dS, List.length_map]; omega), rfl, EX.nil ⟨ws ++ [lettersN (1 + r2)], n' + 2, ⟨rfl, rfl, rfl, trivial⟩, ?_, by rw [List.length_append, hws]; rfl, by omega, ?_⟩⟩)
          · simp only [dS, List.map_append, List.map_cons, List.map_nil]
            have e2 : S (lettersN (1 + r2)) = S (lettersN (1 + r2)) ++ "" := (Str.append_empty _).symm
            rw [← e2]
            exact List.Perm.swap _ _ _
          · intro w hw'
            rcases List.mem_append.mp hw' with hw' | hw'
            · exact hw w hw'
            · obtain rfl := List.mem_singleton.mp hw'
              exact ⟨1 + r2, by omega, by omega, .inl rfl⟩
      ·
          refine EV.str (OpOk.add_str (lit_sizeLine (by rw [S_length, hl1]; show _ + 0 ≤ _; omega)) ⟨dS (ws.map S), [(a₀, .lst (DK cells (n' + 1)))], List.Perm.swap _ _ _, lit_sizeLine (by simp only [dS, List.length_map]; omega), rfl, EX.nil ⟨ws ++ [lettersN (1 + r2)], n' + 1, ⟨rfl, rfl, rfl, trivial⟩, ?_, by rw [List.length_append, hws]; rfl, by omega, ?_⟩⟩)
          · simp only [dS, List.map_append, List.map_cons, List.map_nil]
            have e2 : S (lettersN (1 + r2)) = S (lettersN (1 + r2)) ++ "" := (Str.append_empty _).symm
            rw [← e2]
            exact List.Perm.swap _ _ _
          · intro w hw'
            rcases List.mem_append.mp hw' with hw' | hw'
            · exact hw w hw'
            · obtain rfl := List.mem_singleton.mp hw'
              exact ⟨1 + r2, by omega, by omega, .inl rfl⟩
    · rintro μ own ⟨ws, n', hsub, hp, hws, hn', hw⟩
      refine EX.sub hsub (EX.ownPerm hp ?_)
      refine EX.freeze (a := b) (ds := dS (ws.map S)) (μ' := ([("found", .list (dS (ws.map S)))] : Mu)) (own' := [(a₀, .lst (DK cells n'))]) (List.Perm.swap _ _ _) hneb ⟨.inr ⟨rfl, rfl⟩, trivial⟩ ?_
      refine EX.cons (EX1.ret (EV.name (d := .list (dS (ws.map S))) rfl ⟨_, _, rfl, List.mem_singleton.mpr rfl, ws, n', rfl, by simp only; omega, rfl, ?_, by omega, hw⟩))
      intro e; rw [e] at hws; simp at hws; omega
end Fill66
end
noncomputable section
open PySem PySem.W PyProof.Rows
set_option maxRecDepth 100000
namespace Fill66

/-! the plain law: words with what stands behind them -/
abbrev WS := List Int × List Int
def flat : List WS → List Int
  | [] => []
  | [p] => p.1
  | p :: q :: r => p.1 ++ (p.2 ++ flat (q :: r))
def pl : List WS → List Piece
  | [] => []
  | [p] => [(p.1, gapOf p.1 [])]
  | p :: q :: r => (p.1, gapOf p.1 p.2) :: pl (q :: r)
structure WSok (p : WS) : Prop where
  ne : p.1 ≠ []
  nb : ∀ c ∈ p.1, isBlank c = false
  ne2 : p.2 ≠ []
  bl : ∀ c ∈ p.2, isBlank c = true

theorem tw_app {p : Int → Bool} : ∀ {w t : List Int}, (∀ c ∈ w, p c = true) → (∀ c, t.head? = some c → p c = false) → (w ++ t).takeWhile p = w ∧ (w ++ t).dropWhile p = t
  | [], t, _, h => by
    cases t with
    | nil => exact ⟨rfl, rfl⟩
    | cons c t => have := h c rfl; exact ⟨by rw [List.nil_append, List.takeWhile_cons, this]; rfl, by rw [List.nil_append, List.dropWhile_cons, this]; rfl⟩
  | a :: w, t, hw, h => by
    have ih := tw_app (w := w) (fun c hc => hw c (List.mem_cons_of_mem _ hc)) h
    have ha := hw a List.mem_cons_self
    exact ⟨by rw [List.cons_append, List.takeWhile_cons, ha, ih.1]; rfl, by rw [List.cons_append, List.dropWhile_cons, ha, ih.2]; rfl⟩

theorem head_app {w t : List Int} {P : Int → Prop} (hne : w ≠ []) (h : ∀ c ∈ w, P c) : ∀ c, (w ++ t).head? = some c → P c := by
  cases w with
  | nil => exact absurd rfl hne
  | cons a w => intro c hc; cases hc; exact h _ List.mem_cons_self

theorem flat_cons (p : WS) {m : List WS} (h : m ≠ []) : flat (p :: m) = p.1 ++ (p.2 ++ flat m) := by
  cases m with
  | nil => exact absurd rfl h
  | cons q r => rfl
theorem pl_cons (p : WS) {m : List WS} (h : m ≠ []) : pl (p :: m) = (p.1, gapOf p.1 p.2) :: pl m := by
  cases m with
  | nil => exact absurd rfl h
  | cons q r => rfl
theorem flat_first (p : WS) (m : List WS) : ∃ t, flat (p :: m) = p.1 ++ t := by
  cases m with
  | nil => exact ⟨[], (List.append_nil _).symm⟩
  | cons q r => exact ⟨_, rfl⟩

theorem piecesR_flat : ∀ (l : List WS), (∀ p ∈ l, WSok p) → piecesR (flat l) = pl l
  | [], _ => piecesR_nil
  | [p], h => by
    have hp := h p List.mem_cons_self
    have t := tw_app (p := (!isBlank ·)) (w := p.1) (t := []) (fun c hc => by simp [hp.nb c hc]) nofun
    rw [List.append_nil] at t
    show piecesR p.1 = _
    rw [piecesR_cons hp.ne, t.1, t.2]
    show _ :: piecesR [] = _
    rw [piecesR_nil]; rfl
  | p :: q :: r, h => by
    have hp := h p List.mem_cons_self
    have hq := h q (List.mem_cons_of_mem _ List.mem_cons_self)
    have ih := piecesR_flat (q :: r) fun p hp => h p (List.mem_cons_of_mem _ hp)
    have hne : flat (p :: q :: r) ≠ [] := by
      obtain ⟨t, e⟩ := flat_first p (q :: r)
      rw [e]; intro e2; exact hp.ne (List.append_eq_nil_iff.mp e2).1
    have t1 := tw_app (p := (!isBlank ·)) (w := p.1) (t := p.2 ++ flat (q :: r)) (fun c hc => by simp [hp.nb c hc]) (head_app hp.ne2 fun c hc => by simp [hp.bl c hc])
    have t2 := tw_app (p := isBlank) (w := p.2) (t := flat (q :: r)) hp.bl (by
      obtain ⟨t, e⟩ := flat_first q r
      rw [e]; exact head_app hq.ne hq.nb)
    rw [piecesR_cons hne]
    show (List.takeWhile _ (p.1 ++ (p.2 ++ flat (q :: r))), gapOf (List.takeWhile _ (p.1 ++ (p.2 ++ flat (q :: r)))) _) :: _ = _
    rw [t1.1]
    show (p.1, gapOf p.1 (List.takeWhile _ (List.dropWhile _ (p.1 ++ (p.2 ++ flat (q :: r)))))) :: piecesR (List.dropWhile _ (List.dropWhile _ (p.1 ++ (p.2 ++ flat (q :: r))))) = _
    rw [t1.2, t2.1, t2.2, ih]; rfl
theorem piecesOf_flat (l : List WS) (h : ∀ p ∈ l, WSok p) : piecesOf (flat l) = pl l := by
  unfold piecesOf
  cases l with
  | nil => exact piecesR_nil
  | cons p m =>
    have hp := h p List.mem_cons_self
    have : (flat (p :: m)).dropWhile isBlank = flat (p :: m) := by
      obtain ⟨t, e⟩ := flat_first p m
      have := tw_app (p := isBlank) (w := []) (t := flat (p :: m)) nofun (by rw [e]; exact head_app hp.ne hp.nb)
      exact this.2
    rw [this, piecesR_flat _ h]

def relast (s : List Int) : List WS → List WS
  | [] => []
  | [p] => [(p.1, s)]
  | p :: q :: r => p :: relast s (q :: r)
theorem relast_ne {s : List Int} {l : List WS} (h : l ≠ []) : relast s l ≠ [] := by
  cases l with
  | nil => exact absurd rfl h
  | cons p m => cases m <;> simp [relast]
theorem relast_cons {s : List Int} (p : WS) {m : List WS} (h : m ≠ []) : relast s (p :: m) = p :: relast s m := by
  cases m with
  | nil => exact absurd rfl h
  | cons q r => rfl
theorem flat_relast (s : List Int) : ∀ l : List WS, flat (relast s l) = flat l
  | [] => rfl
  | [p] => rfl
  | p :: q :: r => by
    rw [relast_cons p (by simp), flat_cons p (relast_ne (by simp)), flat_relast s (q :: r)]; rfl
theorem flat_append (s : List Int) : ∀ (l : List WS) {m : List WS}, l ≠ [] → m ≠ [] → flat (relast s l ++ m) = flat l ++ (s ++ flat m)
  | [], _, h, _ => absurd rfl h
  | [p], m, _, hm => flat_cons _ hm
  | p :: q :: r, m, _, hm => by
    have ih := flat_append s (q :: r) (m := m) (by simp) hm
    rw [relast_cons p (by simp), List.cons_append, flat_cons p (by simp [relast_ne]), ih]
    show _ = p.1 ++ (p.2 ++ flat (q :: r)) ++ _
    simp only [List.append_assoc]
def joinWS (ls : List (List WS)) : List WS := ls.flatMap (relast [10])
theorem joinWS_ne {ls : List (List WS)} (hne : ls ≠ []) (h : ∀ l ∈ ls, l ≠ []) : joinWS ls ≠ [] := by
  cases ls with
  | nil => exact absurd rfl hne
  | cons l t =>
    have := relast_ne (s := [10]) (h l List.mem_cons_self)
    simp [joinWS, this]
theorem joined_flat : ∀ ls : List (List WS), (∀ l ∈ ls, l ≠ []) → joinedRows (ls.map flat) = flat (joinWS ls)
  | [], _ => rfl
  | [l], _ => by simp [joinWS, joinedRows, flat_relast]
  | l :: m :: t, h => by
    have ih := joined_flat (m :: t) fun x hx => h x (List.mem_cons_of_mem _ hx)
    have e : joinWS (l :: m :: t) = relast [10] l ++ joinWS (m :: t) := rfl
    rw [e, flat_append [10] l (h l List.mem_cons_self) (joinWS_ne (by simp) fun x hx => h x (List.mem_cons_of_mem _ hx)), ← ih]
    rfl

theorem pl_words : ∀ l : List WS, (pl l).map (·.1) = l.map (·.1)
  | [] => rfl
  | [p] => rfl
  | p :: q :: r => by
    have := pl_words (q :: r)
    rw [pl_cons p (by simp), List.map_cons, this]; rfl
theorem relast_words (s : List Int) : ∀ l : List WS, (relast s l).map (·.1) = l.map (·.1)
  | [] => rfl
  | [p] => rfl
  | p :: q :: r => by rw [relast_cons p (by simp), List.map_cons, relast_words s (q :: r)]; rfl
theorem joinWS_words (ls : List (List WS)) : (joinWS ls).map (·.1) = (ls.map (·.map (·.1))).flatten := by
  induction ls with
  | nil => rfl
  | cons l t ih =>
    have e : joinWS (l :: t) = relast [10] l ++ joinWS t := rfl
    rw [e, List.map_append, relast_words, ih]; rfl

theorem gapOf_cases (w b : List Int) : gapOf w b = 1 ∨ (gapOf w b = 2 ∧ endsSentence w = true) := by
  unfold gapOf
  split
  · rename_i h; split
    · exact .inr ⟨rfl, h⟩
    · exact .inl rfl
  · exact .inl rfl
theorem gapOf_nil (w : List Int) : gapOf w [] = 1 := by
  unfold gapOf
  split <;> rfl
/-- a piece as the fill makes it -/
def PcOk (st : Bool) (p : Piece) : Prop := Word st p.1 ∧ (p.2 = 1 ∨ (p.2 = 2 ∧ endsSentence p.1 = true))
theorem pl_ok {st : Bool} : ∀ l : List WS, (∀ p ∈ l, Word st p.1) → ∀ p ∈ pl l, PcOk st p
  | [], _ => nofun
  | [p], h => fun q hq => by
    obtain rfl : q = (p.1, gapOf p.1 []) := by simpa [pl] using hq
    exact ⟨h p List.mem_cons_self, gapOf_cases _ _⟩
  | p :: q :: r, h => fun x hx => by
    rw [pl_cons p (by simp)] at hx
    rcases List.mem_cons.mp hx with rfl | hx
    · exact ⟨h p List.mem_cons_self, gapOf_cases _ _⟩
    · exact pl_ok (q :: r) (fun p hp => h p (List.mem_cons_of_mem _ hp)) x hx
theorem pl_ne {l : List WS} (h : l ≠ []) : pl l ≠ [] := by
  cases l with
  | nil => exact absurd rfl h
  | cons p m => cases m <;> simp [pl]
theorem pl_last : ∀ l : List WS, ∀ p, (pl l).getLast? = some p → p.2 = 1
  | [], _, h => by cases h
  | [q], p, h => by
    obtain rfl : (q.1, gapOf q.1 []) = p := by simpa [pl] using h
    exact gapOf_nil _
  | q :: r :: t, p, h => by
    rw [pl_cons q (by simp)] at h
    have hne := pl_ne (l := r :: t) (by simp)
    refine pl_last (r :: t) p ?_
    rw [← h]
    cases e : pl (r :: t) with
    | nil => exact absurd e hne
    | cons a b => rw [List.getLast?_cons_cons]

theorem letters_ends : ∀ k, k < 7 → endsSentence (lettersN k) = false := by decide
theorem letters_last : ∀ k, k < 7 → (lettersN k).getLast? ≠ some 46 := by decide
theorem lettersN_chars {k : Nat} : ∀ c ∈ lettersN k, 97 ≤ c ∧ c ≤ 103 := fun c hc => by
  have := List.mem_of_mem_take hc
  revert c
  intro c _ hc
  simp only [List.mem_cons, List.not_mem_nil, or_false] at hc
  omega
theorem Word.chars {st : Bool} {w : List Int} (h : Word st w) : ∀ c ∈ w, c = 46 ∨ (97 ≤ c ∧ c ≤ 103) := by
  obtain ⟨k, _, _, h | ⟨_, h⟩⟩ := h
  · subst h; exact fun c hc => .inr (lettersN_chars c hc)
  · subst h
    intro c hc
    rcases List.mem_append.mp hc with hc | hc
    · exact .inr (lettersN_chars c hc)
    · exact .inl (List.mem_singleton.mp hc)
theorem Word.ne {st : Bool} {w : List Int} (h : Word st w) : w ≠ [] := fun e => by have := h.length; rw [e] at this; simp at this
theorem Word.nb {st : Bool} {w : List Int} (h : Word st w) : ∀ c ∈ w, isBlank c = false := fun c hc => by
  have := h.chars c hc
  have h1 : c ≠ 32 := by omega
  have h2 : c ≠ 9 := by omega
  have h3 : c ≠ 10 := by omega
  simp [isBlank, h1, h2, h3]
theorem Word.nl {st : Bool} {w : List Int} (h : Word st w) : ∀ c ∈ w, isLead c = false := fun c hc => by
  have := h.chars c hc
  have h1 : c ≠ 32 := by omega
  have h2 : c ≠ 9 := by omega
  have h3 : c ≠ 62 := by omega
  simp [isLead, h1, h2, h3]

theorem gapOf_rep {st : Bool} {p : Piece} (h : PcOk st p) : gapOf p.1 (List.replicate p.2.toNat 32) = p.2 := by
  rcases h.2 with e | ⟨e, e2⟩
  · rw [e]
    unfold gapOf
    split <;> rfl
  · rw [e]
    unfold gapOf
    rw [e2]; rfl
theorem gapOf_nl {st : Bool} {p : Piece} (h : PcOk st p) (hb : mayBreak p = true) : gapOf p.1 [10] = p.2 := by
  rcases h.2 with e | ⟨e, e2⟩
  · rw [e]
    unfold mayBreak at hb
    rw [e] at hb
    have hb' : p.1.getLast? ≠ some 46 := by simpa using hb
    have : endsSentence p.1 = false := by
      obtain ⟨k, h1, h2, h3 | ⟨_, h3⟩⟩ := h.1
      · rw [h3]; exact letters_ends k (by omega)
      · rw [h3] at hb'; simp at hb'
    unfold gapOf
    rw [this]; rfl
  · rw [e]
    unfold gapOf
    rw [e2]; rfl

def wsOf (row : List Piece) : List WS := row.map fun p => (p.1, List.replicate p.2.toNat 32)
theorem rowCodes_flat : ∀ row : List Piece, rowCodes row = flat (wsOf row)
  | [] => rfl
  | [p] => rfl
  | p :: q :: r => by
    have := rowCodes_flat (q :: r)
    show p.1 ++ List.replicate p.2.toNat 32 ++ rowCodes (q :: r) = _
    rw [this, List.append_assoc]; rfl
theorem wsOf_ne {row : List Piece} (h : row ≠ []) : wsOf row ≠ [] := by simpa [wsOf] using h

theorem pl_row {st : Bool} : ∀ (row : List Piece) {m : List WS}, row ≠ [] → m ≠ [] → (∀ p ∈ row, PcOk st p) → (∀ p, row.getLast? = some p → mayBreak p = true) → pl (relast [10] (wsOf row) ++ m) = row ++ pl m
  | [], _, h, _, _, _ => absurd rfl h
  | [p], m, _, hm, hk, hb => by
    show pl ((p.1, [10]) :: m) = _
    rw [pl_cons _ hm, gapOf_nl (hk p List.mem_cons_self) (hb p rfl)]; rfl
  | p :: q :: r, m, _, hm, hk, hb => by
    have ih := pl_row (q :: r) (m := m) (by simp) hm (fun p hp => hk p (List.mem_cons_of_mem _ hp)) (fun x hx => hb x (by rw [List.getLast?_cons_cons]; exact hx))
    have e : relast [10] (wsOf (p :: q :: r)) = (p.1, List.replicate p.2.toNat 32) :: relast [10] (wsOf (q :: r)) := rfl
    rw [e, List.cons_append, pl_cons _ (by simp [relast_ne, wsOf]), ih, gapOf_rep (hk p List.mem_cons_self)]; rfl
theorem pl_row_last {st : Bool} : ∀ (row : List Piece), row ≠ [] → (∀ p ∈ row, PcOk st p) → (∀ p, row.getLast? = some p → p.2 = 1) → pl (relast [10] (wsOf row)) = row
  | [], h, _, _ => absurd rfl h
  | [p], _, hk, hb => by
    show [(p.1, gapOf p.1 [])] = _
    rw [gapOf_nil, ← hb p rfl]
  | p :: q :: r, _, hk, hb => by
    have ih := pl_row_last (q :: r) (by simp) (fun p hp => hk p (List.mem_cons_of_mem _ hp)) (fun x hx => hb x (by rw [List.getLast?_cons_cons]; exact hx))
    have e : relast [10] (wsOf (p :: q :: r)) = (p.1, List.replicate p.2.toNat 32) :: relast [10] (wsOf (q :: r)) := rfl
    rw [e, pl_cons _ (relast_ne (by simp [wsOf])), ih, gapOf_rep (hk p List.mem_cons_self)]

/-- rows as the fill breaks them -/
def Broken : List (List Piece) → Prop
  | [] => True
  | [r] => r ≠ [] ∧ ∀ p, r.getLast? = some p → p.2 = 1
  | r :: s :: t => r ≠ [] ∧ (∀ p, r.getLast? = some p → mayBreak p = true) ∧ Broken (s :: t)
theorem Broken.ne : ∀ {parts : List (List Piece)}, Broken parts → ∀ r ∈ parts, r ≠ []
  | [], _, _, h => by cases h
  | [r], hb, x, hx => by obtain rfl := List.mem_singleton.mp hx; exact hb.1
  | r :: s :: t, hb, x, hx => by
    rcases List.mem_cons.mp hx with rfl | hx
    · exact hb.1
    · exact Broken.ne hb.2.2 x hx
theorem pl_broken {st : Bool} : ∀ (parts : List (List Piece)), Broken parts → (∀ r ∈ parts, ∀ p ∈ r, PcOk st p) → pl (joinWS (parts.map wsOf)) = parts.flatten
  | [], _, _ => rfl
  | [r], hb, hk => by
    have e : joinWS ([r].map wsOf) = relast [10] (wsOf r) := by simp [joinWS]
    rw [e, pl_row_last r hb.1 (hk r List.mem_cons_self) hb.2]; simp
  | r :: s :: t, hb, hk => by
    have ih := pl_broken (s :: t) hb.2.2 fun r hr => hk r (List.mem_cons_of_mem _ hr)
    have e : joinWS ((r :: s :: t).map wsOf) = relast [10] (wsOf r) ++ joinWS ((s :: t).map wsOf) := rfl
    rw [e, pl_row r hb.1 (joinWS_ne (by simp) fun l hl => ?_) (hk r List.mem_cons_self) hb.2.1, ih]; rfl
    obtain ⟨x, hx, rfl⟩ := List.mem_map.mp hl
    exact wsOf_ne (Broken.ne hb.2.2 x hx)

theorem rowGo_break (width : Int) (all : List Piece) : ∀ (ps : List Piece) (used : Int) (best k : Nat), all.drop k = ps → (0 < best → ∃ p, all[best - 1]? = some p ∧ mayBreak p = true) → k ≤ all.length →
    rowGo width ps used best k = all.length ∨ ∃ p, all[rowGo width ps used best k - 1]? = some p ∧ mayBreak p = true
  | [], _, _, k, h, _, hk => by
    have : all.length ≤ k := by simpa using h
    exact .inl (by unfold rowGo; omega)
  | p :: r, used, best, k, h, hb, hk => by
    have hp : all[k]? = some p := by have := congrArg (·[0]?) h; simpa using this
    have hr : all.drop (k + 1) = r := by
      rw [← List.tail_drop, h]; rfl
    have hlt : k < all.length := (List.getElem?_eq_some_iff.mp hp).1
    unfold rowGo
    split
    · rename_i h1
      simp only [Bool.and_eq_true, decide_eq_true_eq] at h1
      exact .inr (hb h1.2)
    · split
      · rename_i h2
        have key : k + 1 = all.length ∨ ∃ p, all[k + 1 - 1]? = some p ∧ mayBreak p = true := by
          rw [Bool.or_eq_true] at h2
          rcases h2 with h2 | h2
          · left
            have : r = [] := by simpa using h2
            rw [this] at hr
            have : all.length ≤ k + 1 := by simpa using hr
            omega
          · exact .inr ⟨p, hp, h2⟩
        split
        · exact key
        · rename_i h3
          rcases key with key | key
          · have : r = [] := by rw [← hr, key]; simp
            subst this
            exact .inl (by unfold rowGo; exact key)
          · exact rowGo_break width all r _ (k + 1) (k + 1) hr (fun _ => key) (by omega)
      · exact rowGo_break width all r _ best (k + 1) hr hb (by omega)
theorem rowLen_break (width : Int) (ps : List Piece) : rowLen width ps = ps.length ∨ ∃ p, ps[rowLen width ps - 1]? = some p ∧ mayBreak p = true :=
  rowGo_break width ps ps 0 0 0 rfl (fun h => absurd h (Nat.lt_irrefl _)) (Nat.zero_le _)

theorem rowsR_flatten (width : Int) : ∀ (n : Nat) (first : Int) (ps : List Piece), ps.length ≤ n → (rowsR first width ps).flatten = ps
  | 0, first, ps, h => by
    have : ps = [] := List.length_eq_zero_iff.mp (by omega)
    subst this; rw [rowsR_nil]; rfl
  | n + 1, first, ps, h => by
    by_cases he : ps = []
    · subst he; rw [rowsR_nil]; rfl
    · have hb := rowLen_bounds first ps he
      rw [rowsR_cons first width he, List.flatten_cons, rowsR_flatten width n width _ (by rw [List.length_drop]; omega), List.take_append_drop]
theorem rowsR_ne {first width : Int} {ps : List Piece} (h : ps ≠ []) : rowsR first width ps ≠ [] := by rw [rowsR_cons first width h]; simp

theorem getLast?_take {α : Type} (l : List α) {k : Nat} (h : 0 < k) (hk : k ≤ l.length) : (l.take k).getLast? = l[k - 1]? := by
  rw [List.getLast?_eq_getElem?, List.length_take, Nat.min_eq_left hk, List.getElem?_take_of_lt (by omega)]
theorem getLast?_drop' {α : Type} (l : List α) {k : Nat} (h : k < l.length) : (l.drop k).getLast? = l.getLast? := by
  rw [List.getLast?_eq_getElem?, List.getLast?_eq_getElem?, List.length_drop, List.getElem?_drop]
  congr 1; omega

theorem rowsR_broken (width : Int) : ∀ (n : Nat) (first : Int) (ps : List Piece), ps.length ≤ n → (∀ p, ps.getLast? = some p → p.2 = 1) → Broken (rowsR first width ps)
  | 0, first, ps, h, _ => by
    have : ps = [] := List.length_eq_zero_iff.mp (by omega)
    subst this; rw [rowsR_nil]; trivial
  | n + 1, first, ps, h, hl => by
    by_cases he : ps = []
    · subst he; rw [rowsR_nil]; trivial
    · have hb := rowLen_bounds first ps he
      have hne : ps.take (rowLen first ps) ≠ [] := by
        intro e
        have := congrArg List.length e
        rw [List.length_take] at this
        have h0 : 0 < ps.length := List.length_pos_iff.mpr he
        simp only [List.length_nil] at this
        omega
      rw [rowsR_cons first width he]
      by_cases hd : ps.drop (rowLen first ps) = []
      · rw [hd, rowsR_nil]
        have : ps.take (rowLen first ps) = ps := List.take_of_length_le (by simpa using hd)
        rw [this]
        exact ⟨he, hl⟩
      · have hlt : rowLen first ps < ps.length := by
          rcases Nat.lt_or_ge (rowLen first ps) ps.length with h1 | h1
          · exact h1
          · exact absurd (List.drop_of_length_le h1) hd
        have ih := rowsR_broken width n width (ps.drop (rowLen first ps)) (by rw [List.length_drop]; omega) (fun p hp => hl p (by rw [← getLast?_drop' ps hlt]; exact hp))
        rw [rowsR_cons width width hd] at ih ⊢
        refine ⟨hne, fun p hp => ?_, ih⟩
        rw [getLast?_take ps hb.1 hb.2] at hp
        rcases rowLen_break first ps with h1 | ⟨q, h1, h2⟩
        · omega
        · rw [h1] at hp; cases hp; exact h2

theorem rowsR_one {first width : Int} {ps : List Piece} {r : List Piece} (h : rowsR first width ps = [r]) (width' : Int) : rowsR first width' ps = [r] := by
  have he : ps ≠ [] := fun e => by subst e; rw [rowsR_nil] at h; cases h
  rw [rowsR_cons first width he] at h
  rw [rowsR_cons first width' he]
  injection h with h1 h2
  have : ps.drop (rowLen first ps) = [] := by
    cases hd : ps.drop (rowLen first ps) with
    | nil => rfl
    | cons a b => rw [hd] at h2; exact absurd h2 (rowsR_ne (by simp))
  rw [this, rowsR_nil, h1]
end Fill66
end
noncomputable section
open PySem PySem.W PyProof.Rows
set_option maxRecDepth 100000
namespace Fill66

/-! rows with leads -/
def placeB (first rest : List Int) : List (List Int) → List (List Int)
  | [] => []
  | b :: bs => (first ++ b) :: bs.map (rest ++ ·)
theorem placeRows_B (first rest : List Int) (parts : List (List Piece)) : placeRows first rest parts = placeB first rest (parts.map rowCodes) := by
  cases parts with
  | nil => rfl
  | cons p ps => simp [placeRows, placeB]
theorem parts_flat (parts : List (List Piece)) : parts.map rowCodes = (parts.map wsOf).map flat := by
  rw [List.map_map]
  exact List.map_congr_left fun r _ => rowCodes_flat r

def restOf (first rest : List Int) (n : Nat) : List Int := if 1 < n then rest else if isBlankLead first then first else []
/-- a body: it begins with what is no lead -/
def BodyOk (b : List Int) : Prop := ∃ c t, b = c :: t ∧ isLead c = false
def AllLead (l : List Int) : Prop := ∀ c ∈ l, isLead c = true

theorem leadOf_app {lead b : List Int} (hl : AllLead lead) (hb : BodyOk b) : leadOf (lead ++ b) = lead := by
  obtain ⟨c, t, rfl, hc⟩ := hb
  exact (tw_app (p := isLead) (w := lead) (t := c :: t) hl (fun d hd => by cases hd; exact hc)).1
theorem commonStart_self : ∀ l : List Int, commonStart l l = l
  | [] => rfl
  | a :: l => by
    show (if a == a then a :: commonStart l l else []) = _
    rw [if_pos (by simp), commonStart_self l]
theorem leadsOf_place {first rest : List Int} {bodies : List (List Int)} (hne : bodies ≠ []) (hf : AllLead first) (hr : AllLead rest) (hb : ∀ b ∈ bodies, BodyOk b) : leadsOf (placeB first rest bodies) = (first, restOf first rest bodies.length) := by
  cases bodies with
  | nil => exact absurd rfl hne
  | cons b bs =>
    have h1 := leadOf_app hf (hb b List.mem_cons_self)
    cases bs with
    | nil =>
      show (leadOf (first ++ b), if isBlankLead (leadOf (first ++ b)) then leadOf (first ++ b) else []) = _
      rw [h1]; rfl
    | cons c cs =>
      have h2 := leadOf_app hr (hb c (List.mem_cons_of_mem _ List.mem_cons_self))
      show (leadOf (first ++ b), (cs.map (rest ++ ·)).foldl (fun c x => commonStart c (leadOf x)) (leadOf (rest ++ c))) = _
      rw [h1, h2]
      have gen : ∀ cs : List (List Int), (∀ b ∈ cs, BodyOk b) → (cs.map (rest ++ ·)).foldl (fun c x => commonStart c (leadOf x)) rest = rest := by
        intro cs
        induction cs with
        | nil => intro _; rfl
        | cons d ds ih =>
          intro hd
          rw [List.map_cons, List.foldl_cons, leadOf_app hr (hd d List.mem_cons_self), commonStart_self]
          exact ih fun b hb => hd b (List.mem_cons_of_mem _ hb)
      rw [gen cs fun b hb' => hb b (List.mem_cons_of_mem _ (List.mem_cons_of_mem _ hb'))]
      unfold restOf
      rw [if_pos (by simp)]

theorem joinedRows_app (w b : List Int) (bs : List (List Int)) : joinedRows ((w ++ 10 :: b) :: bs) = w ++ 10 :: joinedRows (b :: bs) := by
  cases bs with
  | nil => rfl
  | cons c cs => show (w ++ 10 :: b) ++ 10 :: joinedRows (c :: cs) = w ++ 10 :: (b ++ 10 :: joinedRows (c :: cs)); simp
theorem foldl_joined (rest : List Int) : ∀ (bs : List (List Int)) (w : List Int), (bs.map (rest ++ ·)).foldl (fun w x => w ++ 10 :: x.drop rest.length) w = joinedRows (w :: bs)
  | [], w => rfl
  | b :: bs, w => by
    rw [List.map_cons, List.foldl_cons, foldl_joined rest bs, List.drop_left, joinedRows_app]; rfl
theorem wordsOfRows_place {first rest : List Int} {bodies : List (List Int)} (hne : bodies ≠ []) (rest' : List Int) (h : 1 < bodies.length → rest' = rest) : wordsOfRows first rest' (placeB first rest bodies) = joinedRows bodies := by
  cases bodies with
  | nil => exact absurd rfl hne
  | cons b bs =>
    show (bs.map (rest ++ ·)).foldl (fun w x => w ++ 10 :: x.drop rest'.length) ((first ++ b).drop first.length) = _
    rw [List.drop_left]
    cases bs with
    | nil => rfl
    | cons c cs => rw [h (by simp), foldl_joined]

theorem filledPara_place {col : Int} {first rest : List Int} {bodies : List (List Int)} (hne : bodies ≠ []) (hf : AllLead first) (hr : AllLead rest) (hb : ∀ b ∈ bodies, BodyOk b) :
    filledPara col (placeB first rest bodies) = placeB first (restOf first rest bodies.length) ((rowsR (col - first.length) (col - (restOf first rest bodies.length).length) (piecesOf (joinedRows bodies))).map rowCodes) := by
  unfold filledPara
  rw [leadsOf_place hne hf hr hb]
  simp only
  rw [wordsOfRows_place hne _ (fun h => by unfold restOf; rw [if_pos h]), placeRows_B]

/-- a row of words with their blanks -/
def LineOk (st : Bool) (l : List WS) : Prop := l ≠ [] ∧ ∀ p ∈ l, Word st p.1 ∧ (p.2 = [32] ∨ p.2 = [32, 32])
theorem LineOk.body {st : Bool} {l : List WS} (h : LineOk st l) : BodyOk (flat l) := by
  cases l with
  | nil => exact absurd rfl h.1
  | cons p m =>
    obtain ⟨t, e⟩ := flat_first p m
    have hw := (h.2 p List.mem_cons_self).1
    obtain ⟨c, u, hcu⟩ : ∃ c u, p.1 = c :: u := by
      cases hp : p.1 with
      | nil => exact absurd hp hw.ne
      | cons c u => exact ⟨c, u, rfl⟩
    exact ⟨c, u ++ t, by rw [e, hcu]; rfl, hw.nl c (by rw [hcu]; exact List.mem_cons_self)⟩
theorem relast_ok {st : Bool} : ∀ {l : List WS}, LineOk st l → ∀ p ∈ relast [10] l, Word st p.1 ∧ WSok p
  | [], h => absurd rfl h.1
  | [p], h => fun q hq => by
    obtain rfl : q = (p.1, [10]) := by simpa [relast] using hq
    have hw := (h.2 p List.mem_cons_self).1
    exact ⟨hw, hw.ne, hw.nb, by simp, by simp [isBlank]⟩
  | p :: q :: r, h => fun x hx => by
    rw [relast_cons p (by simp)] at hx
    rcases List.mem_cons.mp hx with rfl | hx
    · obtain ⟨hw, hs⟩ := h.2 x List.mem_cons_self
      refine ⟨hw, hw.ne, hw.nb, ?_, ?_⟩
      · rcases hs with e | e <;> rw [e] <;> simp
      · rcases hs with e | e <;> rw [e] <;> simp [isBlank]
    · exact relast_ok (l := q :: r) ⟨by simp, fun p hp => h.2 p (List.mem_cons_of_mem _ hp)⟩ x hx
theorem joinWS_ok {st : Bool} {ls : List (List WS)} (h : ∀ l ∈ ls, LineOk st l) : ∀ p ∈ joinWS ls, Word st p.1 ∧ WSok p := fun p hp => by
  obtain ⟨l, hl, hp⟩ := List.mem_flatMap.mp hp
  exact relast_ok (h l hl) p hp
theorem pieces_lines {st : Bool} {ls : List (List WS)} (h : ∀ l ∈ ls, LineOk st l) : piecesOf (joinedRows (ls.map flat)) = pl (joinWS ls) := by
  rw [joined_flat ls fun l hl => (h l hl).1, piecesOf_flat _ fun p hp => (joinWS_ok h p hp).2]

/-- a paragraph: its leads and its rows -/
structure Par where
  first : List Int
  rest : List Int
  lines : List (List WS)
def Par.rest' (P : Par) : List Int := restOf P.first P.rest P.lines.length
def Par.rows (P : Par) : List (List Int) := placeB P.first P.rest (P.lines.map flat)
def Par.pieces (P : Par) : List Piece := pl (joinWS P.lines)
def Par.words (P : Par) : List (List Int) := (P.lines.map (·.map (·.1))).flatten
structure ParOk (st : Bool) (P : Par) : Prop where
  ne : P.lines ≠ []
  lines : ∀ l ∈ P.lines, LineOk st l
  first : AllLead P.first
  rest : AllLead P.rest
/-- the filled paragraph -/
def Par.parts (col : Int) (P : Par) : List (List Piece) := rowsR (col - P.first.length) (col - P.rest'.length) P.pieces
def Par.fill (col : Int) (P : Par) : Par := ⟨P.first, P.rest', (P.parts col).map wsOf⟩

section
variable {st : Bool} {P : Par} {col : Int}
theorem Par.pieces_ne (h : ParOk st P) : P.pieces ≠ [] := pl_ne (joinWS_ne h.ne fun l hl => (h.lines l hl).1)
theorem Par.pieces_ok (h : ParOk st P) : ∀ p ∈ P.pieces, PcOk st p := pl_ok _ fun p hp => (joinWS_ok h.lines p hp).1
theorem Par.pieces_words (P : Par) : P.pieces.map (·.1) = P.words := by
  unfold Par.pieces Par.words
  rw [pl_words, joinWS_words]
theorem Par.parts_flatten (P : Par) : (P.parts col).flatten = P.pieces := rowsR_flatten _ _ _ _ (Nat.le_refl _)
theorem Par.parts_broken (P : Par) : Broken (P.parts col) := rowsR_broken _ _ _ _ (Nat.le_refl _) (pl_last _)
theorem Par.parts_ok (h : ParOk st P) : ∀ r ∈ P.parts col, ∀ p ∈ r, PcOk st p := fun r hr p hp => Par.pieces_ok h p (by
  rw [← Par.parts_flatten (col := col) P]; exact List.mem_flatten.mpr ⟨r, hr, hp⟩)
theorem restOf_lead (h : ParOk st P) : AllLead P.rest' := by
  unfold Par.rest' restOf
  split
  · exact h.rest
  · split
    · exact h.first
    · exact nofun
theorem Par.fill_ok (h : ParOk st P) : ParOk st (P.fill col) where
  ne := by
    show (P.parts col).map wsOf ≠ []
    have := rowsR_ne (first := col - P.first.length) (width := col - P.rest'.length) (Par.pieces_ne h)
    intro e
    exact this (List.map_eq_nil_iff.mp e)
  lines := fun l hl => by
    obtain ⟨r, hr, rfl⟩ := List.mem_map.mp hl
    refine ⟨wsOf_ne (Broken.ne (Par.parts_broken P) r hr), fun p hp => ?_⟩
    obtain ⟨q, hq, rfl⟩ := List.mem_map.mp hp
    obtain ⟨h1, h2⟩ := Par.parts_ok h r hr q hq
    refine ⟨h1, ?_⟩
    rcases h2 with e | ⟨e, _⟩
    · left; simp only [e]; rfl
    · right; simp only [e]; rfl
  first := h.first
  rest := restOf_lead h
theorem Par.fill_pieces (h : ParOk st P) : (P.fill col).pieces = P.pieces := by
  show pl (joinWS ((P.parts col).map wsOf)) = _
  rw [pl_broken _ (Par.parts_broken P) (Par.parts_ok h), Par.parts_flatten]
theorem bodies_ok (h : ParOk st P) : ∀ b ∈ P.lines.map flat, BodyOk b := fun b hb => by
  obtain ⟨l, hl, rfl⟩ := List.mem_map.mp hb
  exact (h.lines l hl).body
theorem filledPara_rows (h : ParOk st P) : filledPara col P.rows = (P.fill col).rows := by
  unfold Par.rows
  rw [filledPara_place (by simpa using h.ne) h.first h.rest (bodies_ok h), pieces_lines h.lines, List.length_map, parts_flat]
  rfl
/-- filled once more it stays -/
theorem Par.fill_fill (h : ParOk st P) : ((P.fill col).fill col).rows = (P.fill col).rows := by
  have hp := Par.fill_pieces (col := col) h
  have key : (P.fill col).parts col = P.parts col ∧ (1 < (P.parts col).length → (P.fill col).rest' = P.rest') := by
    unfold Par.parts
    rw [hp]
    have e1 : (P.fill col).first = P.first := rfl
    rw [e1]
    by_cases hlen : 1 < (P.parts col).length
    · have e2 : (P.fill col).rest' = P.rest' := by
        show restOf P.first P.rest' ((P.parts col).map wsOf).length = _
        unfold restOf
        rw [List.length_map, if_pos hlen]
      exact ⟨by rw [e2], fun _ => e2⟩
    · have hne := rowsR_ne (first := col - P.first.length) (width := col - P.rest'.length) (Par.pieces_ne h)
      obtain ⟨r, hr⟩ : ∃ r, P.parts col = [r] := by
        cases hq : P.parts col with
        | nil => exact absurd hq hne
        | cons a t =>
          rw [hq] at hlen
          cases t with
          | nil => exact ⟨a, rfl⟩
          | cons b u => simp at hlen
      unfold Par.parts at hr hlen
      refine ⟨?_, fun hh => absurd hh hlen⟩
      rw [hr]
      exact rowsR_one hr _
  show placeB P.first (P.fill col).rest' ((((P.fill col).parts col).map wsOf).map flat) = placeB P.first P.rest' (((P.parts col).map wsOf).map flat)
  rw [key.1]
  by_cases hlen : 1 < (P.parts col).length
  · rw [key.2 hlen]
  · cases hq : P.parts col with
    | nil => rfl
    | cons a t =>
      cases t with
      | nil => rfl
      | cons b u => rw [hq] at hlen; simp at hlen
end

/-! texts of paragraphs with rows between -/
def secs (sep : List Int) : List (List (List Int)) → List (List Int)
  | [] => []
  | [R] => R
  | R :: Q :: t => R ++ sep :: secs sep (Q :: t)
def ParaRow (r : List Int) : Prop := (leadOf r).length ≠ r.length
theorem fold_para (col : Int) : ∀ (rs : List (List Int)) (f p : List (List Int)), (∀ r ∈ rs, ParaRow r) → rs.foldl (fillStep col) (f, p) = (f, p ++ rs)
  | [], f, p, _ => by simp
  | r :: rs, f, p, h => by
    have h1 : ((leadOf r).length == r.length) = false := by have := h r List.mem_cons_self; unfold ParaRow at this; simpa using this
    rw [List.foldl_cons]
    have e : fillStep col (f, p) r = (f, p ++ [r]) := by
      unfold fillStep
      rw [if_neg (by rw [h1]; exact Bool.false_ne_true)]
    rw [e, fold_para col rs f _ fun r hr => h r (List.mem_cons_of_mem _ hr)]
    simp
def fin (col : Int) (st : List (List Int) × List (List Int)) : List (List Int) := if st.2.isEmpty then st.1 else st.1 ++ filledPara col st.2
theorem fin_secs {col : Int} {sep : List Int} (hs : leadOf sep = sep) : ∀ (Rs : List (List (List Int))) (f : List (List Int)), Rs ≠ [] → (∀ R ∈ Rs, R ≠ [] ∧ ∀ r ∈ R, ParaRow r) → fin col ((secs sep Rs).foldl (fillStep col) (f, [])) = f ++ secs sep (Rs.map (filledPara col))
  | [], _, h, _ => absurd rfl h
  | [R], f, _, h => by
    obtain ⟨h1, h2⟩ := h R List.mem_cons_self
    show fin col (R.foldl (fillStep col) (f, [])) = _
    rw [fold_para col R f [] h2, List.nil_append]
    unfold fin
    rw [if_neg (by simpa using h1)]; rfl
  | R :: Q :: t, f, _, h => by
    obtain ⟨h1, h2⟩ := h R List.mem_cons_self
    show fin col ((R ++ sep :: secs sep (Q :: t)).foldl (fillStep col) (f, [])) = _
    rw [List.foldl_append, fold_para col R f [] h2, List.nil_append, List.foldl_cons]
    have e : fillStep col (f, R) sep = (f ++ filledPara col R ++ [sep], []) := by
      unfold fillStep
      rw [if_pos (by rw [hs]; simp), if_neg (by simpa using h1)]
    rw [e, fin_secs hs (Q :: t) _ (by simp) fun R hR => h R (List.mem_cons_of_mem _ hR)]
    show _ = f ++ (filledPara col R ++ sep :: secs sep ((Q :: t).map (filledPara col)))
    simp
theorem fillRows_secs {col : Int} {sep : List Int} (hs : leadOf sep = sep) {Rs : List (List (List Int))} (hne : Rs ≠ []) (h : ∀ R ∈ Rs, R ≠ [] ∧ ∀ r ∈ R, ParaRow r) : fillRows col (secs sep Rs) = secs sep (Rs.map (filledPara col)) := by
  have := fin_secs (col := col) hs Rs [] hne h
  rw [List.nil_append] at this
  exact this

def srStep (rows : List (List Int)) (c : Int) : List (List Int) := if c == 10 then rows ++ [[]] else rows.dropLast ++ [rows.getLastD [] ++ [c]]
theorem srStep_row : ∀ (r : List Int) (acc : List (List Int)) (x : List Int), (10 : Int) ∉ r → r.foldl srStep (acc ++ [x]) = acc ++ [x ++ r]
  | [], acc, x, _ => by simp
  | c :: r, acc, x, h => by
    have hc : (c == 10) = false := by
      have : c ≠ 10 := fun e => h (by rw [e]; exact List.mem_cons_self)
      simpa using this
    have e : srStep (acc ++ [x]) c = acc ++ [x ++ [c]] := by
      unfold srStep
      rw [hc]; simp
    rw [List.foldl_cons, e, srStep_row r acc _ fun hm => h (List.mem_cons_of_mem _ hm)]
    simp
theorem srStep_rows : ∀ (rs : List (List Int)) (r : List Int) (acc : List (List Int)) (x : List Int), (∀ q ∈ r :: rs, (10 : Int) ∉ q) → (joinedRows (r :: rs)).foldl srStep (acc ++ [x]) = acc ++ (x ++ r) :: rs
  | [], r, acc, x, h => by
    show r.foldl srStep (acc ++ [x]) = _
    rw [srStep_row r acc x (h r List.mem_cons_self)]
  | s :: rs, r, acc, x, h => by
    show (r ++ 10 :: joinedRows (s :: rs)).foldl srStep (acc ++ [x]) = _
    rw [List.foldl_append, srStep_row r acc x (h r List.mem_cons_self), List.foldl_cons]
    have e : srStep (acc ++ [x ++ r]) 10 = (acc ++ [x ++ r]) ++ [[]] := by
      unfold srStep; rw [if_pos (by decide)]
    rw [e, srStep_rows rs s _ [] fun q hq => h q (List.mem_cons_of_mem _ hq)]
    simp
theorem splitRows_joined {rs : List (List Int)} (hne : rs ≠ []) (h : ∀ q ∈ rs, (10 : Int) ∉ q) : splitRows (joinedRows rs) = rs := by
  cases rs with
  | nil => exact absurd rfl hne
  | cons r rs =>
    have := srStep_rows rs r [] [] h
    rw [List.nil_append, List.nil_append] at this
    exact this

theorem secs_mem {sep : List Int} : ∀ {Rs : List (List (List Int))}, ∀ r ∈ secs sep Rs, r = sep ∨ ∃ R ∈ Rs, r ∈ R
  | [], r, h => by cases h
  | [R], r, h => .inr ⟨R, List.mem_cons_self, h⟩
  | R :: Q :: t, r, h => by
    rcases List.mem_append.mp h with h | h
    · exact .inr ⟨R, List.mem_cons_self, h⟩
    · rcases List.mem_cons.mp h with h | h
      · exact .inl h
      · rcases secs_mem (Rs := Q :: t) r h with h | ⟨S, hS, h⟩
        · exact .inl h
        · exact .inr ⟨S, List.mem_cons_of_mem _ hS, h⟩
theorem secs_ne {sep : List Int} {Rs : List (List (List Int))} (hne : Rs ≠ []) (h : ∀ R ∈ Rs, R ≠ []) : secs sep Rs ≠ [] := by
  cases Rs with
  | nil => exact absurd rfl hne
  | cons R t =>
    cases t with
    | nil => exact h R List.mem_cons_self
    | cons Q t => show R ++ _ ≠ []; simp
theorem filledText_secs {col : Int} {sep : List Int} (hs : leadOf sep = sep) (h10 : (10 : Int) ∉ sep) {Rs : List (List (List Int))} (hne : Rs ≠ []) (h : ∀ R ∈ Rs, R ≠ [] ∧ ∀ r ∈ R, ParaRow r ∧ (10 : Int) ∉ r) :
    filledText col (joinedRows (secs sep Rs)) = joinedRows (secs sep (Rs.map (filledPara col))) := by
  unfold filledText
  rw [splitRows_joined (secs_ne hne fun R hR => (h R hR).1) fun q hq => ?_, fillRows_secs hs hne fun R hR => ⟨(h R hR).1, fun r hr => ((h R hR).2 r hr).1⟩]
  rcases secs_mem q hq with rfl | ⟨R, hR, hq⟩
  · exact h10
  · exact ((h R hR).2 q hq).2
end Fill66
end
noncomputable section
open PySem PySem.W PyProof.Rows
set_option maxRecDepth 100000
namespace Fill66

def Sign (c : Int) : Prop := 32 ≤ c ∧ c ≤ 103
theorem flat_mem {c : Int} : ∀ {l : List WS}, c ∈ flat l → ∃ p ∈ l, c ∈ p.1 ∨ c ∈ p.2
  | [], h => by cases h
  | [p], h => ⟨p, List.mem_cons_self, .inl h⟩
  | p :: q :: r, h => by
    rcases List.mem_append.mp h with h | h
    · exact ⟨p, List.mem_cons_self, .inl h⟩
    · rcases List.mem_append.mp h with h | h
      · exact ⟨p, List.mem_cons_self, .inr h⟩
      · obtain ⟨x, hx, h⟩ := flat_mem (l := q :: r) h
        exact ⟨x, List.mem_cons_of_mem _ hx, h⟩
theorem flat_length : ∀ {l : List WS}, (∀ p ∈ l, p.1.length ≤ 7 ∧ p.2.length ≤ 2) → (flat l).length ≤ 9 * l.length
  | [], _ => Nat.le_refl _
  | [p], h => by have := h p List.mem_cons_self; show p.1.length ≤ 9 * 1; omega
  | p :: q :: r, h => by
    have h1 := h p List.mem_cons_self
    have ih := flat_length (l := q :: r) fun p hp => h p (List.mem_cons_of_mem _ hp)
    rw [flat_cons p (by simp), List.length_append, List.length_append, List.length_cons]
    omega
theorem LineOk.length {st : Bool} {l : List WS} (h : LineOk st l) : (flat l).length ≤ 9 * l.length := flat_length fun p hp => by
  obtain ⟨h1, h2⟩ := h.2 p hp
  have := h1.length
  rcases h2 with e | e <;> rw [e] <;> simp <;> omega
theorem LineOk.sign {st : Bool} {l : List WS} (h : LineOk st l) : ∀ c ∈ flat l, Sign c := fun c hc => by
  obtain ⟨p, hp, hc⟩ := flat_mem hc
  obtain ⟨h1, h2⟩ := h.2 p hp
  rcases hc with hc | hc
  · have := h1.chars c hc; unfold Sign; omega
  · have : c = 32 := by rcases h2 with e | e <;> rw [e] at hc <;> simpa using hc
    unfold Sign; omega

def LeadOk (l : List Int) : Prop := (∀ c ∈ l, c = 32 ∨ c = 62) ∧ l.length ≤ 4
structure ParB (P : Par) : Prop where
  first : LeadOk P.first
  rest : LeadOk P.rest
  many : P.words.length ≤ 15
theorem Par.words_length (P : Par) : P.words.length = (P.lines.map List.length).sum := by
  unfold Par.words
  rw [List.length_flatten, List.map_map]
  congr 1
  exact List.map_congr_left fun l _ => by simp
section
variable {st : Bool} {P : Par} {col : Int}
theorem Par.fill_words (P : Par) : (P.fill col).words = P.words := by
  have e : (P.fill col).words = ((P.parts col).flatten).map (·.1) := by
    show (((P.parts col).map wsOf).map (·.map (·.1))).flatten = _
    rw [List.map_flatten, List.map_map]
    congr 1
    exact List.map_congr_left fun r _ => by simp [wsOf]
  rw [e, Par.parts_flatten, Par.pieces_words]
theorem ParB.rest' (b : ParB P) : LeadOk P.rest' := by
  unfold Par.rest' restOf
  split
  · exact b.rest
  · split
    · exact b.first
    · exact ⟨nofun, Nat.zero_le _⟩
theorem ParB.fill (b : ParB P) : ParB (P.fill col) := ⟨b.first, b.rest', by rw [Par.fill_words]; exact b.many⟩
theorem Par.rows_mem (P : Par) {r : List Int} (h : r ∈ P.rows) : ∃ lead l, (lead = P.first ∨ lead = P.rest) ∧ l ∈ P.lines ∧ r = lead ++ flat l := by
  unfold Par.rows at h
  cases hl : P.lines with
  | nil => rw [hl] at h; cases h
  | cons l t =>
    rw [hl] at h
    rcases List.mem_cons.mp h with h | h
    · exact ⟨_, l, .inl rfl, List.mem_cons_self, h⟩
    · obtain ⟨b, hb, rfl⟩ := List.mem_map.mp h
      obtain ⟨m, hm, rfl⟩ := List.mem_map.mp hb
      exact ⟨_, m, .inr rfl, List.mem_cons_of_mem _ hm, rfl⟩
theorem Par.rows_ok (h : ParOk st P) (b : ParB P) : ∀ r ∈ P.rows, ParaRow r ∧ ∀ c ∈ r, Sign c := fun r hr => by
  obtain ⟨lead, l, hlead, hl, rfl⟩ := P.rows_mem hr
  have hlo : LeadOk lead := by rcases hlead with rfl | rfl; exact b.first; exact b.rest
  have hal : AllLead lead := by rcases hlead with rfl | rfl; exact h.first; exact h.rest
  have hb := (h.lines l hl).body
  refine ⟨?_, fun c hc => ?_⟩
  · unfold ParaRow
    rw [leadOf_app hal hb, List.length_append]
    obtain ⟨c, t, e, _⟩ := hb
    rw [e, List.length_cons]; omega
  · rcases List.mem_append.mp hc with hc | hc
    · have := hlo.1 c hc; unfold Sign; omega
    · exact (h.lines l hl).sign c hc
theorem Par.rows_ne (h : ParOk st P) : P.rows ≠ [] := by
  unfold Par.rows
  have := h.ne
  cases hl : P.lines with
  | nil => exact absurd hl this
  | cons l t => simp [placeB]
theorem rowSum_lines {rest : List Int} (hr : rest.length ≤ 4) : ∀ ls : List (List WS), (∀ l ∈ ls, LineOk st l) → rowSum ((ls.map flat).map (rest ++ ·)) ≤ 14 * (ls.map List.length).sum
  | [], _ => Nat.le_refl _
  | l :: t, h => by
    have ih := rowSum_lines hr t fun l hl => h l (List.mem_cons_of_mem _ hl)
    have hl := h l List.mem_cons_self
    have h1 := hl.length
    have h2 : 1 ≤ l.length := List.length_pos_iff.mpr hl.1
    simp only [rowSum, List.map_cons, List.sum_cons, List.length_append] at ih ⊢
    omega
theorem Par.rows_sum (h : ParOk st P) (b : ParB P) : rowSum P.rows ≤ 14 * 15 := by
  have hm := b.many
  rw [Par.words_length] at hm
  unfold Par.rows
  have hlines := h.lines
  cases hl : P.lines with
  | nil => simp [placeB, rowSum]
  | cons l t =>
    rw [hl] at hm hlines
    have ih := rowSum_lines (st := st) b.rest.2 t fun l hl => hlines l (List.mem_cons_of_mem _ hl)
    have hl := hlines l List.mem_cons_self
    have h1 := hl.length
    have h2 : 1 ≤ l.length := List.length_pos_iff.mpr hl.1
    have h3 := b.first.2
    simp only [placeB, rowSum, List.map_cons, List.sum_cons, List.length_append] at ih hm ⊢
    omega
end

theorem secs_sum {sep : List Int} (hs : sep.length ≤ 2) : ∀ Rs : List (List (List Int)), (∀ R ∈ Rs, rowSum R ≤ 210) → rowSum (secs sep Rs) ≤ 213 * Rs.length
  | [], _ => Nat.le_refl _
  | [R], h => by have := h R List.mem_cons_self; show rowSum R ≤ 213 * 1; omega
  | R :: Q :: t, h => by
    have h1 := h R List.mem_cons_self
    have ih := secs_sum hs (Q :: t) fun R hR => h R (List.mem_cons_of_mem _ hR)
    have e : rowSum (secs sep (R :: Q :: t)) = rowSum R + (sep.length + 1 + rowSum (secs sep (Q :: t))) := by
      show rowSum (R ++ sep :: secs sep (Q :: t)) = _
      rw [rowSum_append]; simp [rowSum]
    rw [e, List.length_cons]
    omega

def SepOk (sep : List Int) : Prop := sep = [] ∨ sep = [32, 32] ∨ sep = [62]
theorem SepOk.lead {sep : List Int} (h : SepOk sep) : leadOf sep = sep := by rcases h with rfl | rfl | rfl <;> decide
theorem SepOk.sign {sep : List Int} (h : SepOk sep) : (∀ c ∈ sep, c = 32 ∨ c = 62) ∧ sep.length ≤ 2 := by rcases h with rfl | rfl | rfl <;> simp
theorem SepOk.n10 {sep : List Int} (h : SepOk sep) : (10 : Int) ∉ sep := by rcases h with rfl | rfl | rfl <;> decide

/-- the text of paragraphs -/
def textOf (sep : List Int) (Ps : List Par) : List Int := joinedRows (secs sep (Ps.map Par.rows))
structure AllOk (st : Bool) (sep : List Int) (Ps : List Par) : Prop where
  sep : SepOk sep
  ne : Ps ≠ []
  many : Ps.length ≤ 2
  ok : ∀ P ∈ Ps, ParOk st P ∧ ParB P
section
variable {st : Bool} {sep : List Int} {Ps : List Par} {col : Int}
theorem AllOk.fill (h : AllOk st sep Ps) (col : Int) : AllOk st sep (Ps.map (Par.fill col)) where
  sep := h.sep
  ne := by simpa using h.ne
  many := by rw [List.length_map]; exact h.many
  ok := fun P hP => by
    obtain ⟨Q, hQ, rfl⟩ := List.mem_map.mp hP
    exact ⟨Par.fill_ok (h.ok Q hQ).1, (h.ok Q hQ).2.fill⟩
theorem AllOk.rows (h : AllOk st sep Ps) : ∀ R ∈ Ps.map Par.rows, R ≠ [] ∧ ∀ r ∈ R, ParaRow r ∧ (10 : Int) ∉ r := fun R hR => by
  obtain ⟨P, hP, rfl⟩ := List.mem_map.mp hR
  obtain ⟨h1, h2⟩ := h.ok P hP
  refine ⟨Par.rows_ne h1, fun r hr => ⟨(Par.rows_ok h1 h2 r hr).1, fun hm => ?_⟩⟩
  have := (Par.rows_ok h1 h2 r hr).2 10 hm
  unfold Sign at this; omega
theorem AllOk.signs (h : AllOk st sep Ps) : ∀ r ∈ secs sep (Ps.map Par.rows), ∀ c ∈ r, Sign c := fun r hr c hc => by
  rcases secs_mem r hr with rfl | ⟨R, hR, hr⟩
  · have := h.sep.sign.1 c hc; unfold Sign; omega
  · obtain ⟨P, hP, rfl⟩ := List.mem_map.mp hR
    obtain ⟨h1, h2⟩ := h.ok P hP
    exact (Par.rows_ok h1 h2 r hr).2 c hc
theorem AllOk.secs_ne (h : AllOk st sep Ps) : secs sep (Ps.map Par.rows) ≠ [] := Fill66.secs_ne (by simpa using h.ne) fun R hR => (h.rows R hR).1
theorem joinedRows_mem {c : Int} : ∀ {rs : List (List Int)}, c ∈ joinedRows rs → c = 10 ∨ ∃ r ∈ rs, c ∈ r
  | [], h => by cases h
  | [r], h => .inr ⟨r, List.mem_cons_self, h⟩
  | r :: s :: t, h => by
    rcases List.mem_append.mp h with h | h
    · exact .inr ⟨r, List.mem_cons_self, h⟩
    · rcases List.mem_cons.mp h with h | h
      · exact .inl h
      · rcases joinedRows_mem (rs := s :: t) h with h | ⟨x, hx, h⟩
        · exact .inl h
        · exact .inr ⟨x, List.mem_cons_of_mem _ hx, h⟩
theorem AllOk.text (h : AllOk st sep Ps) : (∀ c ∈ textOf sep Ps, c = 10 ∨ Sign c) ∧ (textOf sep Ps).length ≤ 426 := by
  refine ⟨fun c hc => ?_, ?_⟩
  · rcases joinedRows_mem hc with e | ⟨r, hr, hc⟩
    · exact .inl e
    · exact .inr (h.signs r hr c hc)
  · have h1 := joinedRows_length _ h.secs_ne
    have h2 := secs_sum (sep := sep) h.sep.sign.2 (Ps.map Par.rows) fun R hR => by
      obtain ⟨P, hP, rfl⟩ := List.mem_map.mp hR
      obtain ⟨h1, h2⟩ := h.ok P hP
      exact Par.rows_sum h1 h2
    rw [List.length_map] at h2
    have h3 := h.many
    unfold textOf
    omega
theorem AllOk.filled (h : AllOk st sep Ps) : filledText col (textOf sep Ps) = textOf sep (Ps.map (Par.fill col)) := by
  unfold textOf
  rw [filledText_secs h.sep.lead h.sep.n10 (by simpa using h.ne) h.rows, List.map_map, List.map_map]
  congr 2
  exact List.map_congr_left fun P hP => filledPara_rows (h.ok P hP).1
theorem AllOk.twice (h : AllOk st sep Ps) : filledText col (textOf sep (Ps.map (Par.fill col))) = textOf sep (Ps.map (Par.fill col)) := by
  rw [(h.fill col).filled]
  unfold textOf
  rw [List.map_map, List.map_map, List.map_map]
  congr 2
  exact List.map_congr_left fun P hP => Par.fill_fill (h.ok P hP).1
theorem AllOk.textOk (h : AllOk st sep Ps) : TextOk col (textOf sep Ps) := by
  obtain ⟨h1, h2⟩ := h.text
  obtain ⟨h3, h4⟩ := (h.fill col).text
  refine ⟨by omega, fun hm => ?_, by rw [h.filled]; omega⟩
  rcases h1 9 hm with e | e
  · omega
  · unfold Sign at e; omega
end

/-! the widths, where no word has a stop -/
def lenOne : List Piece → Int
  | [] => 0
  | p :: r => p.1.length + 1 + lenOne r
def Plain (ps : List Piece) : Prop := ∀ p ∈ ps, p.2 = 1 ∧ mayBreak p = true
theorem rowGo_right (width : Int) : ∀ (ps : List Piece) (used : Int) (k : Nat), Plain ps → (2 ≤ k → used - 1 ≤ width) → ∃ a b, ps = a ++ b ∧ rowGo width ps used k k = k + a.length ∧ (2 ≤ k + a.length → used + lenOne a - 1 ≤ width) ∧ ∀ q t, b = q :: t → width < used + lenOne a + q.1.length
  | [], used, k, _, hi => ⟨[], [], rfl, rfl, fun h => by have := hi h; simp only [lenOne]; omega, nofun⟩
  | p :: r, used, k, hp, hi => by
    obtain ⟨hg, hb⟩ := hp p List.mem_cons_self
    unfold rowGo
    split
    · rename_i h1
      simp only [Bool.and_eq_true, decide_eq_true_eq] at h1
      exact ⟨[], p :: r, rfl, rfl, fun h => by have := hi h; simp only [lenOne]; omega, fun q t e => by cases e; simp only [lenOne]; omega⟩
    · rename_i h1
      rw [if_pos (by rw [hb, Bool.or_true])]
      split
      · rename_i h2
        simp only [Bool.and_eq_true, decide_eq_true_eq, not_and] at h1
        have h3 := h1 h2
        refine ⟨[p], r, rfl, rfl, fun h => by simp at h; omega, fun q t e => ?_⟩
        simp only [lenOne]; omega
      · rename_i h2
        obtain ⟨a, b, e1, e2, e3, e4⟩ := rowGo_right width r (used + p.1.length + p.2) (k + 1) (fun q hq => hp q (List.mem_cons_of_mem _ hq)) (fun _ => by rw [hg]; omega)
        refine ⟨p :: a, b, by rw [e1]; rfl, by rw [e2, List.length_cons]; omega, fun h => ?_, fun q t e => ?_⟩
        · have := e3 (by rw [List.length_cons] at h; omega)
          rw [hg] at this
          simp only [lenOne]; omega
        · have := e4 q t e
          rw [hg] at this
          simp only [lenOne]; omega

/-- a row fits, and the next word would not have had room -/
def Fits (w : Int) (row next : List Piece) : Prop := (2 ≤ row.length → lenOne row - 1 ≤ w) ∧ ∀ q t, next = q :: t → w < lenOne row + q.1.length
theorem rowLen_right (width : Int) {ps : List Piece} (hp : Plain ps) : Fits width (ps.take (rowLen width ps)) (ps.drop (rowLen width ps)) := by
  obtain ⟨a, b, e1, e2, e3, e4⟩ := rowGo_right width ps 0 0 hp (by omega)
  have e : rowLen width ps = a.length := by unfold rowLen; omega
  rw [e]
  have h1 : ps.take a.length = a := by rw [e1]; exact List.take_left
  have h2 : ps.drop a.length = b := by rw [e1]; exact List.drop_left
  rw [h1, h2]
  exact ⟨fun h => by have := e3 (by omega); omega, fun q t e => by have := e4 q t e; omega⟩
theorem rowsR_right (width : Int) : ∀ (n : Nat) (first : Int) (ps : List Piece), ps.length ≤ n → Plain ps → ∀ k row, (rowsR first width ps)[k]? = some row → Fits (if k = 0 then first else width) row (((rowsR first width ps).drop (k + 1)).flatten)
  | 0, first, ps, h, _, k, row, hk => by
    have : ps = [] := List.length_eq_zero_iff.mp (by omega)
    subst this; rw [rowsR_nil] at hk; cases hk
  | n + 1, first, ps, h, hp, k, row, hk => by
    by_cases he : ps = []
    · subst he; rw [rowsR_nil] at hk; cases hk
    · have hb := rowLen_bounds first ps he
      have hlen : (ps.drop (rowLen first ps)).length ≤ n := by rw [List.length_drop]; omega
      rw [rowsR_cons first width he] at hk ⊢
      cases k with
      | zero =>
        have : row = ps.take (rowLen first ps) := by simpa using hk.symm
        subst this
        show Fits first _ ((rowsR width width (ps.drop (rowLen first ps))).flatten)
        rw [rowsR_flatten width n width _ hlen]
        exact rowLen_right first hp
      | succ k =>
        have ih := rowsR_right width n width _ hlen (fun p hm => hp p (List.mem_of_mem_drop hm)) k row (by simpa using hk)
        rw [if_neg (Nat.succ_ne_zero k)]
        have e : (if k = 0 then width else width) = width := by split <;> rfl
        rw [e] at ih
        exact ih
theorem plain_pieces {P : Par} (h : ParOk false P) : Plain P.pieces := fun p hp => by
  obtain ⟨hw, hg⟩ := Par.pieces_ok h p hp
  obtain ⟨k, h1, h2, h3 | ⟨h3, _⟩⟩ := hw
  · have hl := letters_last k (by omega)
    have he := letters_ends k (by omega)
    rw [← h3] at hl he
    refine ⟨?_, ?_⟩
    · rcases hg with e | ⟨_, e⟩
      · exact e
      · rw [he] at e; cases e
    · unfold mayBreak
      have : (p.1.getLast? != some 46) = true := by simpa using hl
      rw [this, Bool.or_true]
  · cases h3
def spJ (ws : List (List Int)) : List Int := flat (ws.map fun w => (w, [32]))
theorem lenOne_row : ∀ row : List Piece, row ≠ [] → Plain row → ((rowCodes row).length : Int) + 1 = lenOne row ∧ rowCodes row = spJ (row.map (·.1))
  | [], h, _ => absurd rfl h
  | [p], _, _ => ⟨by simp [rowCodes, lenOne], rfl⟩
  | p :: q :: r, _, h => by
    obtain ⟨i1, i2⟩ := lenOne_row (q :: r) (by simp) fun p hp => h p (List.mem_cons_of_mem _ hp)
    obtain ⟨hg, _⟩ := h p List.mem_cons_self
    have e : rowCodes (p :: q :: r) = p.1 ++ ([32] ++ rowCodes (q :: r)) := by
      show p.1 ++ List.replicate p.2.toNat 32 ++ rowCodes (q :: r) = _
      rw [hg, List.append_assoc]; rfl
    refine ⟨?_, ?_⟩
    · rw [e]
      simp only [List.length_append, List.length_cons, List.length_nil, lenOne] at i1 ⊢
      omega
    · rw [e, i2]; rfl

/-- what _law_right asks: rows given by their words -/
structure RightOk (first rest : List Int) (col : Int) (owns : List (List (List Int))) : Prop where
  ne : ∀ own ∈ owns, own ≠ [] ∧ ∀ w ∈ own, Word false w
  fits : ∀ k own, owns[k]? = some own → (2 ≤ own.length → ((if k = 0 then first else rest).length : Int) + (spJ own).length ≤ col) ∧ ∀ q t, (owns.drop (k + 1)).flatten = q :: t → col < ((if k = 0 then first else rest).length : Int) + (spJ own).length + 1 + q.length
def Par.owns (col : Int) (P : Par) : List (List (List Int)) := (P.parts col).map (·.map (·.1))
theorem Par.right {P : Par} (h : ParOk false P) (col : Int) : RightOk P.first P.rest' col (P.owns col) ∧ (P.fill col).rows = placeB P.first P.rest' ((P.owns col).map spJ) ∧ (P.owns col).flatten = P.words := by
  have hpl := plain_pieces h
  have hplr : ∀ r ∈ P.parts col, r ≠ [] ∧ Plain r := fun r hr => ⟨Broken.ne (Par.parts_broken P) r hr, fun p hp => hpl p (by rw [← Par.parts_flatten (col := col) P]; exact List.mem_flatten.mpr ⟨r, hr, hp⟩)⟩
  refine ⟨⟨fun own ho => ?_, fun k own hk => ?_⟩, ?_, ?_⟩
  · obtain ⟨r, hr, rfl⟩ := List.mem_map.mp ho
    refine ⟨by simpa using (hplr r hr).1, fun w hw => ?_⟩
    obtain ⟨p, hp, rfl⟩ := List.mem_map.mp hw
    exact (Par.parts_ok h r hr p hp).1
  · unfold Par.owns at hk ⊢
    rw [List.getElem?_map] at hk
    obtain ⟨row, hrow, rfl⟩ := Option.map_eq_some_iff.mp hk
    obtain ⟨hne, hp⟩ := hplr row (List.mem_of_getElem? hrow)
    obtain ⟨l1, l2⟩ := lenOne_row row hne hp
    obtain ⟨f1, f2⟩ := rowsR_right (col - P.rest'.length) P.pieces.length (col - P.first.length) P.pieces (Nat.le_refl _) hpl k row hrow
    rw [← l2]
    have e : (if k = 0 then col - (P.first.length : Int) else col - (P.rest'.length : Int)) = col - ((if k = 0 then P.first else P.rest').length : Int) := by split <;> rfl
    rw [e] at f1 f2
    refine ⟨fun h2 => ?_, fun q t e2 => ?_⟩
    · have := f1 (by simpa using h2); omega
    · rw [← List.map_drop, ← List.map_flatten] at e2
      obtain ⟨q', t', e3, rfl, _⟩ := List.map_eq_cons_iff.mp e2
      have := f2 q' t' e3
      omega
  · show placeB P.first P.rest' (((P.parts col).map wsOf).map flat) = _
    rw [← parts_flat]
    unfold Par.owns
    rw [List.map_map]
    congr 1
    exact List.map_congr_left fun r hr => (lenOne_row r (hplr r hr).1 (hplr r hr).2).2
  · unfold Par.owns
    rw [← List.map_flatten, Par.parts_flatten, Par.pieces_words]
end Fill66
end
noncomputable section
open PySem PySem.W PyProof.Rows PySem.Builtin PySem.Builtin.Str
set_option maxRecDepth 100000
namespace Fill66

/-! texts: the built-in methods on lists of signs -/
def Nn (l : List Int) : Prop := ∀ c ∈ l, 0 ≤ c
theorem toNat_inj : ∀ {a b : List Int}, Nn a → Nn b → a.map Int.toNat = b.map Int.toNat → a = b
  | [], [], _, _, _ => rfl
  | [], _ :: _, _, _, h => by cases h
  | _ :: _, [], _, _, h => by cases h
  | x :: a, y :: b, ha, hb, h => by
    rw [List.map_cons, List.map_cons] at h
    injection h with h1 h2
    have hx := ha x List.mem_cons_self
    have hy := hb y List.mem_cons_self
    rw [toNat_inj (fun c hc => ha c (List.mem_cons_of_mem _ hc)) (fun c hc => hb c (List.mem_cons_of_mem _ hc)) h2, show x = y by omega]
theorem S_cps (a : List Int) : (S a).cps.toList = a.map Int.toNat := S_toList a
theorem S_ext {x : Str} {a : List Int} (h : x.cps.toList = a.map Int.toNat) : x = S a := by
  apply Str.ext'
  apply Array.toList_inj.mp
  rw [h, S_cps]
def inter (sep : List Int) : List (List Int) → List Int
  | [] => []
  | [r] => r
  | r :: q :: t => r ++ (sep ++ inter sep (q :: t))
theorem joined_inter : ∀ rs, joinedRows rs = inter [10] rs
  | [] => rfl
  | [_] => rfl
  | r :: q :: t => by show r ++ 10 :: joinedRows (q :: t) = _; rw [joined_inter (q :: t)]; rfl
theorem inter_flat (s : List Int) : ∀ ls : List (List WS), (∀ l ∈ ls, l ≠ []) → inter s (ls.map flat) = flat (ls.flatMap (relast s))
  | [], _ => rfl
  | [l], _ => by simp [inter, flat_relast]
  | l :: m :: t, h => by
    have ih := inter_flat s (m :: t) fun x hx => h x (List.mem_cons_of_mem _ hx)
    have e : (l :: m :: t).flatMap (relast s) = relast s l ++ (m :: t).flatMap (relast s) := rfl
    have hm := relast_ne (s := s) (h m (List.mem_cons_of_mem _ List.mem_cons_self))
    rw [e, flat_append s l (h l List.mem_cons_self) (by rw [List.flatMap_cons]; simp [hm]), ← ih]
    rfl
theorem Str_join (sep : List Int) : ∀ rs : List (List Int), Str.join (S sep) (rs.map S) = S (inter sep rs)
  | [] => S_empty.symm
  | [r] => rfl
  | r :: q :: t => by
    have ih := Str_join sep (q :: t)
    show S r ++ S sep ++ Str.join (S sep) ((q :: t).map S) = S (r ++ (sep ++ inter sep (q :: t)))
    rw [ih, S_append, S_append, Str.append_assoc]
theorem Txt_join (sep : List Int) (rs : List (List Int)) : Txt.join (S sep) (rs.map S) = S (inter sep rs) := by
  rw [eq_of_beq (join_plain_closes (S sep) (rs.map S)), Str_join]

/-! split by one sign -/
theorem interN_free {c : Nat} : ∀ {a b : List (List Nat)} {f g : List Nat}, (∀ r ∈ f :: a, c ∉ r) → (∀ r ∈ g :: b, c ∉ r) → f ++ (a.map (c :: ·)).flatten = g ++ (b.map (c :: ·)).flatten → f :: a = g :: b := by
  have tw : ∀ (f t : List Nat), c ∉ f → (∀ d, t.head? = some d → d = c) → (f ++ t).takeWhile (· != c) = f ∧ (f ++ t).dropWhile (· != c) = t := by
    intro f
    induction f with
    | nil =>
      intro t _ ht
      cases t with
      | nil => exact ⟨rfl, rfl⟩
      | cons d t => have := ht d rfl; subst this; simp
    | cons x f ih =>
      intro t hf ht
      have hx : (x != c) = true := by
        have : x ≠ c := fun e => hf (by rw [e]; exact List.mem_cons_self)
        simpa using this
      have := ih t (fun hm => hf (List.mem_cons_of_mem _ hm)) ht
      exact ⟨by rw [List.cons_append, List.takeWhile_cons, hx, this.1]; rfl, by rw [List.cons_append, List.dropWhile_cons, hx, this.2]; rfl⟩
  have hd : ∀ (a : List (List Nat)), ∀ d, ((a.map (c :: ·)).flatten).head? = some d → d = c := by
    intro a d h
    cases a with
    | nil => cases h
    | cons x t => simpa using h.symm
  intro a
  induction a with
  | nil =>
    intro b f g hf hg h
    have t1 := tw f _ (hf f List.mem_cons_self) (hd [])
    have t2 := tw g _ (hg g List.mem_cons_self) (hd b)
    rw [h] at t1
    have e1 := t1.1.symm.trans t2.1
    have e2 := t1.2.symm.trans t2.2
    cases b with
    | nil => rw [e1]
    | cons x t => cases e2
  | cons x a ih =>
    intro b f g hf hg h
    have t1 := tw f _ (hf f List.mem_cons_self) (hd (x :: a))
    have t2 := tw g _ (hg g List.mem_cons_self) (hd b)
    rw [h] at t1
    have e1 := t1.1.symm.trans t2.1
    have e2 := t1.2.symm.trans t2.2
    cases b with
    | nil => cases e2
    | cons y b =>
      have e3 : x ++ (a.map (c :: ·)).flatten = y ++ (b.map (c :: ·)).flatten := by simpa using e2
      rw [e1, ih (fun r hr => hf r (List.mem_cons_of_mem _ hr)) (fun r hr => hg r (List.mem_cons_of_mem _ hr)) e3]
theorem Str_join_one (c : Nat) : ∀ (f : Str) (a : List Str), (Str.join ⟨#[c]⟩ (f :: a)).cps.toList = f.cps.toList ++ ((a.map (·.cps.toList)).map (c :: ·)).flatten
  | f, [] => by simp [Str.join]
  | f, g :: a => by
    show (f ++ ⟨#[c]⟩ ++ Str.join ⟨#[c]⟩ (g :: a)).cps.toList = _
    rw [Str.cps_append, Str.cps_append, Array.toList_append, Array.toList_append, Str_join_one c g a]
    simp
theorem map_cps_inj : ∀ {a b : List Str}, a.map (·.cps.toList) = b.map (·.cps.toList) → a = b
  | [], [], _ => rfl
  | [], _ :: _, h => by cases h
  | _ :: _, [], h => by cases h
  | x :: a, y :: b, h => by
    rw [List.map_cons, List.map_cons] at h
    injection h with h1 h2
    rw [map_cps_inj h2, Str.ext' (Array.toList_inj.mp h1)]
theorem split_one {c : Int} (hc : 0 ≤ c) {rs : List (List Int)} (hne : rs ≠ []) (h : ∀ r ∈ rs, c ∉ r ∧ Nn r) : Txt.split (S (inter [c] rs)) (S [c]) = rs.map S := by
  have es : S [c] = ⟨#[c.toNat]⟩ := by simp [S]
  have h1 := StrLaws.join_split (S (inter [c] rs)) (S [c])
  have h2 := StrLaws.split_free (S (inter [c] rs)) c.toNat
  rw [← Str_join [c] rs] at h1
  rw [es] at h1 ⊢
  have hp := split_pos (S (inter [c] rs)) (⟨#[c.toNat]⟩ : Str)
  rw [← Str_join, es] at h2 hp ⊢
  generalize Txt.split (Str.join ⟨#[c.toNat]⟩ (rs.map S)) ⟨#[c.toNat]⟩ = parts at h1 h2 hp
  cases parts with
  | nil => simp at hp
  | cons f a =>
    cases rs with
    | nil => exact absurd rfl hne
    | cons r rs =>
      have h3 := congrArg (fun x => x.cps.toList) h1
      simp only [List.map_cons] at h3
      rw [Str_join_one, Str_join_one] at h3
      have h4 : f.cps.toList :: a.map (·.cps.toList) = (S r).cps.toList :: (rs.map S).map (·.cps.toList) := interN_free (c := c.toNat) (fun x hx => ?_) (fun x hx => ?_) h3
      · rw [List.map_cons]
        injection h4 with h5 h6
        rw [Str.ext' (Array.toList_inj.mp h5), map_cps_inj h6]
      · rw [← List.map_cons (f := fun x : Str => x.cps.toList)] at hx
        obtain ⟨y, hy, rfl⟩ := List.mem_map.mp hx
        exact h2 y hy
      · have hx' : x ∈ (r :: rs).map (fun q => q.map Int.toNat) := by
          have e : (S r).cps.toList :: (rs.map S).map (·.cps.toList) = (r :: rs).map (fun q => q.map Int.toNat) := by
            rw [List.map_cons, List.map_map, S_cps]
            congr 1
          rw [← e]; exact hx
        obtain ⟨q, hq, rfl⟩ := List.mem_map.mp hx'
        intro hm
        obtain ⟨d, hd, e⟩ := List.mem_map.mp hm
        obtain ⟨hq1, hq2⟩ := h q hq
        have := hq2 d hd
        have : d = c := by omega
        exact hq1 (this ▸ hd)

/-! words -/
theorem scan_word : ∀ (w : List Int) (ws : List Str) (run : Str), (∀ c ∈ w, Unicode.isSpace c.toNat = false) → (w.map Int.toNat).foldl KWd.step (ws, run) = (ws, run ++ S w)
  | [], ws, run, _ => by
    show (ws, run) = _
    rw [S_empty, show run ++ "" = run from Str.append_empty _]
  | c :: w, ws, run, h => by
    rw [List.map_cons, List.foldl_cons]
    have e : KWd.step (ws, run) c.toNat = (ws, run ++ ⟨#[c.toNat]⟩) := by
      unfold KWd.step
      rw [if_neg (by rw [h c List.mem_cons_self]; exact Bool.false_ne_true)]
    have e2 : S (c :: w) = ⟨#[c.toNat]⟩ ++ S w := by
      rw [show c :: w = [c] ++ w from rfl, S_append]
      congr 1
    rw [e, scan_word w ws _ fun c hc => h c (List.mem_cons_of_mem _ hc), e2, Str.append_assoc]
theorem scan_blanks : ∀ (b : List Int) (ws : List Str), (∀ c ∈ b, Unicode.isSpace c.toNat = true) → (b.map Int.toNat).foldl KWd.step (ws, Str.empty) = (ws, Str.empty)
  | [], ws, _ => rfl
  | c :: b, ws, h => by
    rw [List.map_cons, List.foldl_cons]
    have e : KWd.step (ws, Str.empty) c.toNat = (ws, Str.empty) := by
      unfold KWd.step
      rw [if_pos (h c List.mem_cons_self)]; rfl
    rw [e, scan_blanks b ws fun c hc => h c (List.mem_cons_of_mem _ hc)]
theorem scan_gap {b : List Int} (hne : b ≠ []) (h : ∀ c ∈ b, Unicode.isSpace c.toNat = true) (ws : List Str) {run : Str} (hr : run.length ≠ 0) : (b.map Int.toNat).foldl KWd.step (ws, run) = (ws ++ [run], Str.empty) := by
  cases b with
  | nil => exact absurd rfl hne
  | cons c b =>
    rw [List.map_cons, List.foldl_cons]
    have e : KWd.step (ws, run) c.toNat = (ws ++ [run], Str.empty) := by
      unfold KWd.step
      rw [if_pos (h c List.mem_cons_self), if_neg hr]
    rw [e, scan_blanks b _ fun c hc => h c (List.mem_cons_of_mem _ hc)]
structure SpOk (p : WS) : Prop where
  ne : p.1 ≠ []
  nb : ∀ c ∈ p.1, Unicode.isSpace c.toNat = false
  ne2 : p.2 ≠ []
  bl : ∀ c ∈ p.2, Unicode.isSpace c.toNat = true
theorem S_len_ne {w : List Int} (h : w ≠ []) : (S w).length ≠ 0 := by rw [S_length]; have := List.length_pos_iff.mpr h; omega
theorem scan_flat : ∀ (l : List WS) (ws : List Str), (∀ p ∈ l, SpOk p) → KWd.fin (((flat l).map Int.toNat).foldl KWd.step (ws, Str.empty)) = ws ++ l.map (fun p => S p.1)
  | [], ws, _ => by
    show KWd.fin (ws, Str.empty) = _
    unfold KWd.fin
    rw [if_pos (show Str.empty.length = 0 from rfl), List.map_nil, List.append_nil]
  | [p], ws, h => by
    have hp := h p List.mem_cons_self
    show KWd.fin ((p.1.map Int.toNat).foldl KWd.step (ws, Str.empty)) = _
    rw [scan_word _ _ _ hp.nb, Str.empty_append]
    unfold KWd.fin
    rw [if_neg (S_len_ne hp.ne)]; rfl
  | p :: q :: r, ws, h => by
    have hp := h p List.mem_cons_self
    rw [flat_cons p (by simp), List.map_append, List.map_append, List.foldl_append, List.foldl_append, scan_word _ _ _ hp.nb, Str.empty_append, scan_gap hp.ne2 hp.bl _ (S_len_ne hp.ne), scan_flat (q :: r) _ fun p hp => h p (List.mem_cons_of_mem _ hp)]
    simp
theorem words_flat (l : List WS) (h : ∀ p ∈ l, SpOk p) : Txt.words (S (flat l)) = l.map (fun p => S p.1) := by
  rw [KWd.words_scan]
  unfold KWd.scan
  rw [S_cps, scan_flat l [] h, List.nil_append]
theorem space32 : Unicode.isSpace 32 = true := by decide
theorem spaceL : ∀ c, c < 104 → (c = 46 ∨ 97 ≤ c) → Unicode.isSpace c = false := by decide
theorem Word.sp {st : Bool} {w : List Int} (h : Word st w) : ∀ c ∈ w, Unicode.isSpace c.toNat = false := fun c hc => by
  have := h.chars c hc
  exact spaceL _ (by omega) (by omega)

/-! strip from the left -/
theorem lstrip_lead {lead b : List Int} (hl : ∀ c ∈ lead, c = 32 ∨ c = 62) (hb : BodyOk b) (hn : Nn b) : Txt.lstripChars (S (lead ++ b)) " >" = S b := by
  unfold Txt.lstripChars
  rw [PyProof.Rows.stripBy_eq]
  obtain ⟨c, t, rfl, hc⟩ := hb
  have hc0 := hn c List.mem_cons_self
  have e1 : stripLo (" >" : Str).cps.contains true (S (lead ++ c :: t)) = lead.length := by
    show ((S (lead ++ c :: t)).cps.toList.takeWhile _).length = _
    rw [S_cps, List.map_append, List.map_cons]
    have : (lead.map Int.toNat ++ c.toNat :: t.map Int.toNat).takeWhile (" >" : Str).cps.contains = lead.map Int.toNat := by
      have gen : ∀ lead : List Int, (∀ c ∈ lead, c = 32 ∨ c = 62) → (lead.map Int.toNat ++ c.toNat :: t.map Int.toNat).takeWhile (" >" : Str).cps.contains = lead.map Int.toNat := by
        intro lead
        induction lead with
        | nil =>
          intro _
          have hcc : (" >" : Str).cps.contains c.toNat = false := by
            have e : (" >" : Str).cps = #[32, 62] := by decide
            rw [e]
            unfold isLead at hc
            simp only [Bool.or_eq_false_iff, beq_eq_false_iff_ne] at hc
            have h1 : c.toNat ≠ 32 := by omega
            have h2 : c.toNat ≠ 62 := by omega
            simp [h1, h2]
          rw [List.map_nil, List.nil_append, List.takeWhile_cons, hcc]; rfl
        | cons d l ih =>
          intro h
          have hd : (" >" : Str).cps.contains d.toNat = true := by
            have e0 : (" >" : Str).cps = #[32, 62] := by decide
            rw [e0]
            rcases h d List.mem_cons_self with e | e <;> rw [e] <;> simp
          rw [List.map_cons, List.cons_append, List.takeWhile_cons, hd, ih fun c hc => h c (List.mem_cons_of_mem _ hc)]; rfl
      exact gen lead hl
    rw [this, List.length_map]
  rw [e1]
  apply S_ext
  show (strSub _ _ (S (lead ++ c :: t)).length).cps.toList = _
  rw [StrLaws.strSub_toList, S_cps, S_length, List.map_append, List.length_append]
  rw [List.drop_append_of_le_length (by simp), List.drop_of_length_le (by simp), List.nil_append, List.take_of_length_le (by simp)]

/-! slices -/
theorem slice_to {a b : List Int} : Txt.slice (S (a ++ b)) none (some (a.length : Int)) = S a := by
  have h := slice_closes_toL (x := S (a ++ b)) (j := a.length) (by omega) (by rw [S_length, List.length_append]; omega)
  rw [eq_of_beq h]
  apply S_ext
  show ((S (a ++ b)).cps.toList.drop (0 : Int).toNat).take ((a.length : Int) - 0).toNat = _
  rw [S_cps, List.map_append]
  have e : ((a.length : Int) - 0).toNat = (a.map Int.toNat).length := by simp
  rw [e, show (0 : Int).toNat = 0 from rfl, List.drop_zero, List.take_left]
theorem slice_from {a b : List Int} : Txt.slice (S (a ++ b)) (some (a.length : Int)) none = S b := by
  have h := slice_closes_fromL (x := S (a ++ b)) (i := a.length) (b := (S (a ++ b)).length) (by omega) (by rw [S_length, List.length_append]; omega) rfl
  rw [eq_of_beq h]
  apply S_ext
  show ((S (a ++ b)).cps.toList.drop ((a.length : Int)).toNat).take (((S (a ++ b)).length : Int) - a.length).toNat = _
  rw [S_cps, S_length, List.map_append, List.length_append]
  have e : ((a.length : Int)).toNat = (a.map Int.toNat).length := by simp
  rw [e, List.drop_left, List.take_of_length_le (by simp; omega)]
theorem S_strOk {a : List Int} (h : ∀ c ∈ a, c < 1114112) : PyData.strOk (S a) = true := by
  show (S a).cps.all (· < 0x110000) = true
  rw [← Array.all_toList, S_cps, List.all_eq_true]
  intro x hx
  obtain ⟨c, hc, rfl⟩ := List.mem_map.mp hx
  have := h c hc
  simp; omega
theorem joinOk_S {sep : List Int} {rs : List (List Int)} (h : (rs.map List.length).sum + rs.length * sep.length ≤ 2 ^ 20) : JoinOk (S sep) (rs.map S) = true := by
  unfold JoinOk
  have e : ∀ (rs : List (List Int)) (k : Nat), (rs.map S).foldl (fun a x => a + x.length + (S sep).length) k = k + (rs.map List.length).sum + rs.length * sep.length := by
    intro rs
    induction rs with
    | nil => intro k; simp
    | cons r rs ih =>
      intro k
      rw [List.map_cons, List.foldl_cons, ih, S_length, S_length, List.map_cons, List.sum_cons, List.length_cons, Nat.add_mul]
      omega
  have e2 := e rs 0
  rw [List.foldl_toArray, e2]
  unfold tooLong
  have := sizeLine_eq
  simp only [Bool.not_eq_true', decide_eq_false_iff_not]
  omega
end Fill66
end
noncomputable section
open PySem PySem.W PyProof.Rows PySem.Builtin PySem.Builtin.Str
set_option maxRecDepth 100000
namespace Fill66

/-! split by the rows that part -/
theorem srStep_acc : ∀ (l : List Int) (acc : List (List Int)) (x : List (List Int)), x ≠ [] → l.foldl srStep (acc ++ x) = acc ++ l.foldl srStep x
  | [], _, _, _ => rfl
  | c :: l, acc, x, hx => by
    have e : srStep (acc ++ x) c = acc ++ srStep x c := by
      unfold srStep
      split
      · simp
      · obtain ⟨i, t, rfl⟩ : ∃ i t, x = i ++ [t] := ⟨x.dropLast, x.getLast hx, (List.dropLast_concat_getLast hx).symm⟩
        have e1 : (acc ++ (i ++ [t])).dropLast = acc ++ i := by rw [← List.append_assoc, List.dropLast_concat]
        have e2 : (acc ++ (i ++ [t])).getLastD [] = t := by rw [← List.append_assoc]; simp
        have e3 : (i ++ [t]).getLastD [] = t := by simp
        rw [e1, e2, e3, List.dropLast_concat, List.append_assoc]
    have hne : srStep x c ≠ [] := by unfold srStep; split <;> simp
    rw [List.foldl_cons, List.foldl_cons, e, srStep_acc l acc _ hne]
theorem splitRows_app (u v : List Int) : splitRows (u ++ 10 :: v) = splitRows u ++ splitRows v := by
  show (u ++ 10 :: v).foldl srStep [[]] = u.foldl srStep [[]] ++ v.foldl srStep [[]]
  rw [List.foldl_append, List.foldl_cons]
  have e : srStep (u.foldl srStep [[]]) 10 = u.foldl srStep [[]] ++ [[]] := by unfold srStep; rw [if_pos (by decide)]
  rw [e, srStep_acc v _ _ (by simp)]
theorem mid_unique {α : Type} {s : α} : ∀ {a c b d : List α}, a ++ s :: b = c ++ s :: d → s ∉ a → s ∉ c → a = c
  | [], [], _, _, _, _, _ => rfl
  | [], y :: c, _, _, h, _, hc => by
    rw [List.nil_append, List.cons_append] at h
    injection h with h1 _
    exact absurd (h1 ▸ List.mem_cons_self) hc
  | x :: a, [], _, _, h, ha, _ => by
    rw [List.nil_append, List.cons_append] at h
    injection h with h1 _
    exact absurd (h1 ▸ List.mem_cons_self) ha
  | x :: a, y :: c, b, d, h, ha, hc => by
    rw [List.cons_append, List.cons_append] at h
    injection h with h1 h2
    rw [mid_unique h2 (fun hm => ha (List.mem_cons_of_mem _ hm)) (fun hm => hc (List.mem_cons_of_mem _ hm)), h1]
theorem at_decomp {x y : List Int} (hx : Nn x) (hy : Nn y) {k : Nat} (h : StrLaws.At (S x) (S y) (S x).length k) : ∃ v, x = x.take k ++ (y ++ v) ∧ (x.take k).length = k := by
  obtain ⟨h1, h2⟩ := h
  rw [StrLaws.subAt_eq, S_cps, S_cps, ← List.map_drop, ← List.map_take, S_length] at h2
  rw [S_length, S_length] at h1
  have h3 : (x.drop k).take y.length = y := toNat_inj (fun c hc => hx c (List.mem_of_mem_drop (List.mem_of_mem_take hc))) hy (eq_of_beq h2)
  refine ⟨(x.drop k).drop y.length, ?_, by rw [List.length_take]; omega⟩
  conv => lhs; rw [← List.take_append_drop k x, ← List.take_append_drop y.length (x.drop k), h3]
theorem at_comp (u y v : List Int) : StrLaws.At (S (u ++ (y ++ v))) (S y) (S (u ++ (y ++ v))).length u.length := by
  refine ⟨by simp only [S_length, List.length_append]; omega, ?_⟩
  rw [StrLaws.subAt_eq, S_cps, S_cps, S_length, ← List.map_drop, ← List.map_take, List.drop_left, List.take_left]
  exact beq_self_eq_true _
theorem joinedRows_app2 : ∀ (A : List (List Int)) {B : List (List Int)}, A ≠ [] → B ≠ [] → joinedRows (A ++ B) = joinedRows A ++ 10 :: joinedRows B
  | [], _, h, _ => absurd rfl h
  | [a], b :: B, _, _ => rfl
  | [a], [], _, h => absurd rfl h
  | a :: b :: A, B, _, hB => by
    have ih := joinedRows_app2 (b :: A) (by simp) hB
    show a ++ 10 :: joinedRows ((b :: A) ++ B) = (a ++ 10 :: joinedRows (b :: A)) ++ _
    rw [ih]; simp
def partOf (sep : List Int) : List Int := 10 :: (sep ++ [10])
theorem secs_join {sep : List Int} : ∀ {Rs : List (List (List Int))}, Rs ≠ [] → (∀ R ∈ Rs, R ≠ []) → joinedRows (secs sep Rs) = inter (partOf sep) (Rs.map joinedRows)
  | [], h, _ => absurd rfl h
  | [R], _, _ => rfl
  | R :: Q :: t, _, h => by
    have ih := secs_join (sep := sep) (Rs := Q :: t) (by simp) fun R hR => h R (List.mem_cons_of_mem _ hR)
    have hne : secs sep (Q :: t) ≠ [] := secs_ne (by simp) fun R hR => h R (List.mem_cons_of_mem _ hR)
    show joinedRows (R ++ sep :: secs sep (Q :: t)) = joinedRows R ++ (partOf sep ++ inter (partOf sep) ((Q :: t).map joinedRows))
    rw [joinedRows_app2 R (h R List.mem_cons_self) (by simp), ← ih]
    have e : joinedRows (sep :: secs sep (Q :: t)) = sep ++ 10 :: joinedRows (secs sep (Q :: t)) := by
      cases hs : secs sep (Q :: t) with
      | nil => exact absurd hs hne
      | cons a b => rfl
    rw [e]
    unfold partOf
    simp

theorem split_no {x y : Str} (hy : 1 ≤ y.length) (h : ∀ k, ¬ StrLaws.At x y x.length k) : Txt.split x y = [x] := by
  obtain ⟨f, hG, _⟩ := StrLaws.occ_tight x y hy
  unfold Txt.split
  split
  · rfl
  · split
    · rfl
    · rename_i h2
      cases ho : occurrences x y 0 x.length (x.length + 1) with
      | nil => rw [ho] at h2; exact absurd rfl h2
      | cons c r => rw [ho] at hG; exact absurd hG.2.1 (h c)
theorem strKind_S {a : List Int} (h : ∀ c ∈ a, c < 256) : PySem.Builtin.Str.strKind (S a) = 1 := by
  unfold PySem.Builtin.Str.strKind
  have : (S a).cps.all (· < 256) = true := by
    rw [← Array.all_toList, S_cps, List.all_eq_true]
    intro x hx
    obtain ⟨c, hc, rfl⟩ := List.mem_map.mp hx
    have := h c hc
    simp; omega
  rw [if_pos this]
theorem split_at {u y v : List Int} (hy : 1 ≤ y.length) (hs : ∀ c ∈ u ++ (y ++ v), c < 256) (h : ∀ k, StrLaws.At (S (u ++ (y ++ v))) (S y) (S (u ++ (y ++ v))).length k → k = u.length) : Txt.split (S (u ++ (y ++ v))) (S y) = [S u, S v] := by
  obtain ⟨f, hG, hT⟩ := StrLaws.occ_tight (S (u ++ (y ++ v))) (S y) (by rw [S_length]; exact hy)
  have hat := at_comp u y v
  have ho : occurrences (S (u ++ (y ++ v))) (S y) 0 (S (u ++ (y ++ v))).length ((S (u ++ (y ++ v))).length + 1) = [u.length] := by
    cases ho : occurrences (S (u ++ (y ++ v))) (S y) 0 (S (u ++ (y ++ v))).length ((S (u ++ (y ++ v))).length + 1) with
    | nil =>
      rw [ho] at hG
      have e : f = 0 := hG
      exact absurd hat (hT _ (by omega))
    | cons c r =>
      rw [ho] at hG
      have ec := h c hG.2.1
      cases r with
      | nil => rw [ec]
      | cons d r =>
        have hd := hG.2.2.2
        have ed := h d hd.2.1
        have := hd.1
        rw [S_length] at this
        omega
  unfold Txt.split
  have k1 := strKind_S hs
  have k2 := strKind_S (a := y) fun c hc => hs c (List.mem_append_right _ (List.mem_append_left _ hc))
  rw [if_neg (by rw [k1, k2, S_length, S_length]; simp only [List.length_append, Bool.or_eq_true, decide_eq_true_eq, not_or]; omega), ho, if_neg (by simp), StrLaws.partsBetween_eq]
  show [strSub (S (u ++ (y ++ v))) 0 u.length, strSub (S (u ++ (y ++ v))) (u.length + (S y).length) (S (u ++ (y ++ v))).length] = _
  have e1 : strSub (S (u ++ (y ++ v))) 0 u.length = S u := S_ext (by rw [StrLaws.strSub_toList, S_cps, ← List.map_drop, ← List.map_take, List.drop_zero, Nat.sub_zero, List.take_left])
  have e2 : strSub (S (u ++ (y ++ v))) (u.length + (S y).length) (S (u ++ (y ++ v))).length = S v := S_ext (by
    rw [StrLaws.strSub_toList, S_cps, ← List.map_drop, ← List.map_take, S_length, S_length, ← List.append_assoc, show u.length + y.length = (u ++ y).length by rw [List.length_append], List.drop_left, List.take_of_length_le (by simp only [List.length_append]; omega)])
  rw [e1, e2]

section
variable {st : Bool} {sep : List Int} {Ps : List Par}
theorem sep_notin (h : AllOk st sep Ps) : ∀ P ∈ Ps, sep ∉ P.rows := fun P hP hm => by
  obtain ⟨h1, h2⟩ := h.ok P hP
  have := (Par.rows_ok h1 h2 _ hm).1
  unfold ParaRow at this
  rw [h.sep.lead] at this
  exact this rfl
theorem Sign.nn {l : List Int} (h : ∀ c ∈ l, c = 10 ∨ Sign c) : Nn l ∧ ∀ c ∈ l, c < 256 := ⟨fun c hc => by have := h c hc; unfold Sign at this; omega, fun c hc => by have := h c hc; unfold Sign at this; omega⟩
theorem partOf_sign {sep : List Int} (h : SepOk sep) : ∀ c ∈ partOf sep, c = 10 ∨ Sign c := fun c hc => by
  unfold partOf at hc
  rcases List.mem_cons.mp hc with e | hc
  · exact .inl e
  · rcases List.mem_append.mp hc with hc | hc
    · have := h.sign.1 c hc; unfold Sign; omega
    · exact .inl (List.mem_singleton.mp hc)
theorem AllOk.rows_of_text (h : AllOk st sep Ps) : splitRows (textOf sep Ps) = secs sep (Ps.map Par.rows) := splitRows_joined h.secs_ne fun q hq hm => by
  have := h.signs q hq 10 hm
  unfold Sign at this; omega
/-- the text, parted -/
theorem AllOk.split (h : AllOk st sep Ps) : Txt.split (S (textOf sep Ps)) (S (partOf sep)) = Ps.map fun P => S (joinedRows P.rows) := by
  obtain ⟨t1, t2⟩ := h.text
  obtain ⟨n1, n2⟩ := Sign.nn t1
  have hpn := (Sign.nn (partOf_sign h.sep)).1
  have hpl : 1 ≤ (partOf sep).length := by simp [partOf]
  have hrows := h.rows_of_text
  have decomp : ∀ k, StrLaws.At (S (textOf sep Ps)) (S (partOf sep)) (S (textOf sep Ps)).length k → ∃ u v, u.length = k ∧ secs sep (Ps.map Par.rows) = splitRows u ++ sep :: splitRows v := fun k hk => by
    obtain ⟨v, e, el⟩ := at_decomp n1 hpn hk
    refine ⟨_, v, el, ?_⟩
    rw [← hrows, e]
    have e2 : (textOf sep Ps).take k ++ (partOf sep ++ v) = (textOf sep Ps).take k ++ 10 :: (sep ++ 10 :: v) := by unfold partOf; simp
    have e3 : splitRows sep = [sep] := splitRows_joined (rs := [sep]) (by simp) fun q hq => by rw [List.mem_singleton.mp hq]; exact h.sep.n10
    rw [e2, splitRows_app, splitRows_app, e3]
    rw [List.take_left' el]; rfl
  have hni := sep_notin h
  have hok := h.ok
  have hmany := h.many
  have hne := h.ne
  rcases Ps with _ | ⟨P, _ | ⟨Q, _ | ⟨R, t⟩⟩⟩
  · exact absurd rfl hne
  · refine split_no (by rw [S_length]; exact hpl) fun k hk => ?_
    obtain ⟨u, v, _, e⟩ := decomp k hk
    have e' : P.rows = splitRows u ++ sep :: splitRows v := e
    exact hni P List.mem_cons_self (by rw [e']; simp)
  · have hP := Par.rows_ne (hok P List.mem_cons_self).1
    have hQ := Par.rows_ne (hok Q (List.mem_cons_of_mem _ List.mem_cons_self)).1
    have e : textOf sep [P, Q] = joinedRows P.rows ++ (partOf sep ++ joinedRows Q.rows) := by
      unfold textOf
      rw [secs_join (by simp) fun R hR => (h.rows R hR).1]; rfl
    rw [e] at n2 decomp ⊢
    refine split_at hpl n2 fun k hk => ?_
    obtain ⟨u, v, el, e2⟩ := decomp k hk
    have e3 : P.rows ++ sep :: Q.rows = splitRows u ++ sep :: splitRows v := e2
    have hniP := hni P List.mem_cons_self
    have hniQ := hni Q (List.mem_cons_of_mem _ List.mem_cons_self)
    have hu : sep ∉ splitRows u := fun hm => by
      obtain ⟨a, b, hab⟩ := List.append_of_mem hm
      have hcnt := congrArg (List.count sep) e3
      rw [hab] at hcnt
      simp only [List.count_append, List.count_cons_self, List.count_eq_zero_of_not_mem hniP, List.count_eq_zero_of_not_mem hniQ] at hcnt
      omega
    have e4 := mid_unique e3 hniP hu
    have s1 := splitRows_sum u
    have s2 := joinedRows_length _ hP
    rw [← e4] at s1
    omega
  · simp only [List.length_cons] at hmany; omega
end
end Fill66
end
noncomputable section
open PySem PySem.W PyProof.Rows PySem.Builtin PySem.Builtin.Str
set_option maxRecDepth 100000
namespace Fill66

theorem lit_sp : (" " : Str) = S [32] := by decide
theorem lit_nl : ("\n" : Str) = S [10] := by decide
section
variable {st : Bool} {P : Par} {sep : List Int} {Ps : List Par}
theorem Par.bodies (h : ParOk st P) : ∀ b ∈ P.lines.map flat, BodyOk b ∧ Nn b ∧ ∀ c ∈ b, Sign c := fun b hb => by
  obtain ⟨l, hl, rfl⟩ := List.mem_map.mp hb
  have hs := (h.lines l hl).sign
  exact ⟨(h.lines l hl).body, (Sign.nn fun c hc => .inr (hs c hc)).1, hs⟩
theorem lstrip_rows (h : ParOk st P) (b : ParB P) : (P.rows.map S).map (fun y => Txt.lstripChars y " >") = (P.lines.map flat).map S := by
  have hb := Par.bodies h
  have gen : ∀ (lead : List Int), LeadOk lead → ∀ bs : List (List Int), (∀ b ∈ bs, BodyOk b ∧ Nn b ∧ ∀ c ∈ b, Sign c) → ((bs.map (lead ++ ·)).map S).map (fun y => Txt.lstripChars y " >") = bs.map S := by
    intro lead hl bs hbs
    rw [List.map_map, List.map_map]
    exact List.map_congr_left fun b hb => lstrip_lead hl.1 (hbs b hb).1 (hbs b hb).2.1
  unfold Par.rows
  generalize P.lines.map flat = bs at hb
  cases bs with
  | nil => rfl
  | cons c cs =>
    have h1 := lstrip_lead b.first.1 (hb c List.mem_cons_self).1 (hb c List.mem_cons_self).2.1
    have h2 := gen P.rest b.rest cs fun b hb' => hb b (List.mem_cons_of_mem _ hb')
    show Txt.lstripChars (S (P.first ++ c)) " >" :: ((cs.map (P.rest ++ ·)).map S).map (fun y => Txt.lstripChars y " >") = S c :: cs.map S
    rw [h1, h2]
theorem bodies_sum : ∀ {ls : List (List WS)}, (∀ l ∈ ls, LineOk st l) → ((ls.map flat).map List.length).sum ≤ 9 * (ls.map List.length).sum ∧ ls.length ≤ (ls.map List.length).sum
  | [], _ => ⟨Nat.le_refl _, Nat.le_refl _⟩
  | l :: t, h => by
    have ih := bodies_sum (ls := t) fun l hl => h l (List.mem_cons_of_mem _ hl)
    have hl := h l List.mem_cons_self
    have h1 := hl.length
    have h2 : 1 ≤ l.length := List.length_pos_iff.mpr hl.1
    simp only [List.map_cons, List.sum_cons, List.length_cons] at ih ⊢
    omega
theorem Par.sum (h : ParOk st P) (b : ParB P) : ((P.lines.map flat).map List.length).sum ≤ 135 ∧ P.lines.length ≤ 15 := by
  have h1 := bodies_sum h.lines
  have h2 := b.many
  rw [Par.words_length] at h2
  omega
theorem words_join (h : ParOk st P) (b : ParB P) : JoinOk " " ((P.lines.map flat).map S) = true ∧ (Txt.join " " ((P.lines.map flat).map S)).length ≤ 1000 ∧ Txt.words (Txt.join " " ((P.lines.map flat).map S)) = P.words.map S := by
  obtain ⟨s1, s2⟩ := Par.sum h b
  rw [lit_sp]
  have e := inter_flat [32] P.lines fun l hl => (h.lines l hl).1
  refine ⟨joinOk_S (by rw [List.length_map]; simp only [List.length_cons, List.length_nil]; omega), ?_, ?_⟩
  · rw [Txt_join, S_length]
    have gen : ∀ rs : List (List Int), (inter [32] rs).length ≤ (rs.map List.length).sum + rs.length := by
      intro rs
      induction rs with
      | nil => exact Nat.le_refl _
      | cons r t ih =>
        cases t with
        | nil => simp [inter]
        | cons q t =>
          have : inter [32] (r :: q :: t) = r ++ ([32] ++ inter [32] (q :: t)) := rfl
          rw [this]
          simp only [List.length_append, List.length_cons, List.length_nil, List.map_cons, List.sum_cons] at ih ⊢
          omega
    have := gen (P.lines.map flat)
    rw [List.length_map] at this
    omega
  · rw [Txt_join, e, words_flat _ fun p hp => ?_]
    · unfold Par.words
      have e2 : ∀ l : List WS, l.map (fun p => S p.1) = (l.map (·.1)).map S := fun l => by rw [List.map_map]; rfl
      rw [e2]
      congr 1
      have : ∀ ls : List (List WS), (ls.flatMap (relast [32])).map (·.1) = (ls.map (·.map (·.1))).flatten := by
        intro ls
        induction ls with
        | nil => rfl
        | cons l t ih => rw [List.flatMap_cons, List.map_append, relast_words, ih]; rfl
      exact this P.lines
    · obtain ⟨l, hl, hp⟩ := List.mem_flatMap.mp hp
      have gen : ∀ l : List WS, LineOk st l → ∀ p ∈ relast [32] l, SpOk p := by
        intro l
        induction l with
        | nil => intro h; exact absurd rfl h.1
        | cons q t ih =>
          intro hq p hp
          have hw := (hq.2 q List.mem_cons_self).1
          cases t with
          | nil =>
            obtain rfl : p = (q.1, [32]) := by simpa [relast] using hp
            refine ⟨hw.ne, hw.sp, by simp, fun c hc => ?_⟩
            rw [List.mem_singleton.mp hc]; exact space32
          | cons u t =>
            rw [relast_cons q (by simp)] at hp
            rcases List.mem_cons.mp hp with rfl | hp
            · obtain ⟨_, hs⟩ := hq.2 p List.mem_cons_self
              refine ⟨hw.ne, hw.sp, by rcases hs with e | e <;> rw [e] <;> simp, fun c hc => ?_⟩
              have : c = 32 := by rcases hs with e | e <;> rw [e] at hc <;> simpa using hc
              rw [this]; exact space32
            · exact ih ⟨by simp, fun p hp => hq.2 p (List.mem_cons_of_mem _ hp)⟩ p hp
      exact gen l (h.lines l hl) p hp
theorem sum_rows (rs : List (List Int)) : (rs.map List.length).sum + rs.length = rowSum rs := by
  induction rs with
  | nil => rfl
  | cons r t ih => simp only [rowSum, List.map_cons, List.sum_cons, List.length_cons] at ih ⊢; omega
theorem rows_join (h : ParOk st P) (b : ParB P) : JoinOk "\n" (P.rows.map S) = true ∧ Txt.join "\n" (P.rows.map S) = S (joinedRows P.rows) ∧ (joinedRows P.rows).length ≤ 210 := by
  have h1 := Par.rows_sum h b
  have h2 := sum_rows P.rows
  have h3 := joinedRows_length _ (Par.rows_ne h)
  rw [lit_nl]
  refine ⟨joinOk_S (by simp only [List.length_cons, List.length_nil]; omega), ?_, by omega⟩
  rw [Txt_join, joined_inter]
theorem rows_split (h : ParOk st P) (b : ParB P) : Txt.split (S (joinedRows P.rows)) "\n" = P.rows.map S := by
  rw [lit_nl, joined_inter]
  refine split_one (by omega) (Par.rows_ne h) fun r hr => ?_
  have hs := (Par.rows_ok h b r hr).2
  refine ⟨fun hm => ?_, (Sign.nn fun c hc => .inr (hs c hc)).1⟩
  have := hs 10 hm; unfold Sign at this; omega
def textsOf (Ps : List Par) : List Str := Ps.map fun P => S (joinedRows P.rows)
theorem texts_join (h : AllOk st sep Ps) : JoinOk (S (partOf sep)) (textsOf Ps) = true ∧ Txt.join (S (partOf sep)) (textsOf Ps) = S (textOf sep Ps) := by
  have e : textsOf Ps = ((Ps.map Par.rows).map joinedRows).map S := by unfold textsOf; rw [List.map_map, List.map_map]; rfl
  rw [e]
  have gen : ∀ Ps : List Par, (∀ P ∈ Ps, ParOk st P ∧ ParB P) → (((Ps.map Par.rows).map joinedRows).map List.length).sum ≤ 210 * Ps.length := by
    intro Ps
    induction Ps with
    | nil => intro _; exact Nat.le_refl _
    | cons P t ih =>
      intro hh
      have h1 := (rows_join (hh P List.mem_cons_self).1 (hh P List.mem_cons_self).2).2.2
      have := ih fun P hP => hh P (List.mem_cons_of_mem _ hP)
      simp only [List.map_cons, List.sum_cons, List.length_cons]; omega
  have hm := h.many
  have h1 := gen Ps h.ok
  have h2 : (partOf sep).length ≤ 4 := by have := h.sep.sign.2; simp only [partOf, List.length_cons, List.length_append, List.length_nil]; omega
  refine ⟨joinOk_S ?_, ?_⟩
  · rw [List.length_map, List.length_map]
    have : Ps.length * (partOf sep).length ≤ 2 * 4 := Nat.mul_le_mul hm h2
    omega
  · rw [Txt_join]
    unfold textOf
    rw [secs_join (by simpa using h.ne) fun R hR => (h.rows R hR).1]
theorem chr_join {l : List Int} (hl : l.length ≤ 1000) : JoinOk "" (l.map fun c => (⟨#[c.toNat]⟩ : Str)) = true ∧ Txt.join "" (l.map fun c => (⟨#[c.toNat]⟩ : Str)) = S l := by
  have e : (l.map fun c => (⟨#[c.toNat]⟩ : Str)) = (l.map fun c => [c]).map S := by
    rw [List.map_map]
    exact List.map_congr_left fun c _ => by simp [S]
  rw [e, ← S_empty]
  refine ⟨joinOk_S ?_, ?_⟩
  · have : ((l.map fun c => [c]).map List.length).sum = l.length := by
      clear e hl
      induction l with
      | nil => rfl
      | cons c t ih => simp only [List.map_cons, List.sum_cons, List.length_cons, List.length_nil] at ih ⊢; omega
    rw [this, List.length_map]; simp only [List.length_nil]; omega
  · rw [Txt_join]
    congr 1
    clear e hl
    induction l with
    | nil => rfl
    | cons c t ih =>
      cases t with
      | nil => rfl
      | cons d t =>
        show [c] ++ ([] ++ inter [] ((d :: t).map fun c => [c])) = _
        rw [ih]; rfl
theorem text_codes (h : AllOk st sep Ps) : (S (textOf sep Ps)).cps.toList.map (fun c : Nat => D.int (c : Int)) = dI (textOf sep Ps) ∧ (S (textOf sep Ps)).cps.all (· < 128) = true := by
  obtain ⟨t1, _⟩ := h.text
  refine ⟨?_, ?_⟩
  · rw [S_cps, List.map_map]
    exact List.map_congr_left fun c hc => by
      have := (Sign.nn t1).1 c hc
      show D.int (c.toNat : Int) = .int c
      rw [Int.toNat_of_nonneg this]
  · rw [← Array.all_toList, S_cps, List.all_eq_true]
    intro x hx
    obtain ⟨c, hc, rfl⟩ := List.mem_map.mp hx
    have := t1 c hc
    unfold Sign at this
    simp; omega
end
end Fill66
end
noncomputable section
open PySem PySem.W PyProof.Rows
set_option maxRecDepth 100000
set_option maxHeartbeats 400000
namespace Fill66

def leadsL : List (List Int × List Int) := [([], []), ([32, 32], [32, 32]), ([32, 32, 32, 32], []), ([62, 32], [62, 32]), ([], [32, 32, 32])]
def leadsD : List D := [.tup [.str "", .str ""], .tup [.str "  ", .str "  "], .tup [.str "    ", .str ""], .tup [.str "> ", .str "> "], .tup [.str "", .str "   "]]
theorem S2 : S [32, 32] = "  " := by decide
theorem S3 : S [32, 32, 32] = "   " := by decide
theorem S4 : S [32, 32, 32, 32] = "    " := by decide
theorem Sq : S [62, 32] = "> " := by decide
theorem S1 : S [32] = " " := by decide
theorem leads_at (r : Nat) (h : r < 5) : ∃ f t, (f, t) ∈ leadsL ∧ leadsD[r]? = some (.tup [.str (S f), .str (S t)]) := by
  match r, h with
  | 0, _ => exact ⟨[], [], by decide, by rw [S_empty]; rfl⟩
  | 1, _ => exact ⟨[32, 32], [32, 32], by decide, by rw [S2]; rfl⟩
  | 2, _ => exact ⟨[32, 32, 32, 32], [], by decide, by rw [S4, S_empty]; rfl⟩
  | 3, _ => exact ⟨[62, 32], [62, 32], by decide, by rw [Sq]; rfl⟩
  | 4, _ => exact ⟨[], [32, 32, 32], by decide, by rw [S_empty, S3]; rfl⟩
theorem leads_facts : ∀ p ∈ leadsL, LeadOk p.1 ∧ LeadOk p.2 ∧ AllLead p.1 ∧ AllLead p.2 ∧ (Txt.strip (S p.1) == "") = isBlankLead p.1 := by
  intro p hp
  have h5 : p = ([], []) ∨ p = ([32, 32], [32, 32]) ∨ p = ([32, 32, 32, 32], []) ∨ p = ([62, 32], [62, 32]) ∨ p = ([], [32, 32, 32]) := by simpa [leadsL] using hp
  rcases h5 with rfl | rfl | rfl | rfl | rfl <;> (unfold LeadOk AllLead; refine ⟨by decide, by decide, by decide, by decide, by decide⟩)

theorem placeB_snoc (f t : List Int) (bs : List (List Int)) (b : List Int) : placeB f t (bs ++ [b]) = placeB f t bs ++ [(if bs.length = 0 then f else t) ++ b] := by
  cases bs with
  | nil => rfl
  | cons c cs => simp [placeB]
theorem placeB_length (f t : List Int) (bs : List (List Int)) : (placeB f t bs).length = bs.length := by
  cases bs with
  | nil => rfl
  | cons c cs => simp [placeB]
def lineOf (bl : List Int) (ws : List (List Int)) : List WS := ws.map fun w => (w, bl)
theorem inter_words (bl : List Int) : ∀ ws : List (List Int), inter bl ws = flat (lineOf bl ws)
  | [] => rfl
  | [_] => rfl
  | w :: v :: r => by show w ++ (bl ++ inter bl (v :: r)) = _; rw [inter_words bl (v :: r)]; rfl
theorem lineOf_ok {st : Bool} {bl : List Int} {ws : List (List Int)} (hb : bl = [32] ∨ bl = [32, 32]) (hne : ws ≠ []) (h : ∀ w ∈ ws, Word st w) : LineOk st (lineOf bl ws) := by
  refine ⟨by simpa [lineOf] using hne, fun p hp => ?_⟩
  obtain ⟨w, hw, rfl⟩ := List.mem_map.mp hp
  exact ⟨h w hw, hb⟩
theorem words_sum {st : Bool} {ws : List (List Int)} (h : ∀ w ∈ ws, Word st w) : (ws.map List.length).sum ≤ 7 * ws.length := by
  induction ws with
  | nil => exact Nat.le_refl _
  | cons w r ih =>
    have h1 := (h w List.mem_cons_self).length
    have := ih fun w hw => h w (List.mem_cons_of_mem _ hw)
    simp only [List.map_cons, List.sum_cons, List.length_cons]; omega

section
variable {x : Cx} {env : Env} {μ : Mu} {own : Own}
theorem two_le : (2 : Nat) ≤ sizeLine := lit_sizeLine (by decide)
theorem AR.const {c : Const} {k : Nat} {p : Pos} {es : List Expr} {P : List D → Own → Prop} (h : EV x env μ own (.Constant c k p) fun d o => AR x env μ o es fun ds o' => P (d :: ds) o') : AR x env μ own (.Constant c k p :: es) P := AR.cons h rfl
theorem AR.tupl {ts : List Expr} {k : Nat} {p : Pos} {es : List Expr} {P : List D → Own → Prop} (h : EV x env μ own (.Tuple ts k p) fun d o => AR x env μ o es fun ds o' => P (d :: ds) o') : AR x env μ own (.Tuple ts k p :: es) P := AR.cons h rfl
end

theorem fn_law_paragraph : FNR 41 2 ["deck", "has_stops"] (fun q : List Int × Nat × Bool => DK q.1 q.2.1) (fun q => [.bool q.2.2]) (fun q => DeckOk q.1 q.2.1 ∧ q.2.1 ≤ 500)
    (fun q d c => ∃ (P : Par) (n' : Nat), c = DK q.1 n' ∧ n' ≤ q.2.1 + 40 ∧ d = .tup [.list (dS (P.rows.map S)), .str (S P.first), .str (S P.rest')] ∧ ParOk q.2.2 P ∧ ParB P) where
  binds := ⟨by decide, (fun vs pm code doc h => match vs, h with | [_, _], _ => rfl), by decide, rfl, rfl, rfl, by decide⟩
  isDef := rfl
  len := fun _ => rfl
  walk := fun x L a cd a₀ ⟨cells, n, st⟩ hk hl ⟨⟨hpos, hlen, hn⟩, hn2⟩ => by
    simp only at hpos hlen hn hn2
    have two : (2 : Nat) ≤ sizeLine := lit_sizeLine (by decide)
    refine EX.cons ?_
    refine EX1.assignTup ?_ ?_ ?_
    rotate_left
    · rfl
    · rfl
    refine EV.index ?_ ?_
    rotate_left
    · intro _ _
      with_unfolding_all rfl
    refine EV.list ?_
    refine AR.tupl ?_
    refine EV.tuple ?_
    refine AR.const ?_
    refine EV.str ?_
    refine AR.const ?_
    refine EV.str ?_
    refine AR.nil ?_
    refine ⟨two, ?_⟩
    refine AR.tupl ?_
    refine EV.tuple ?_
    refine AR.const ?_
    refine EV.str ?_
    refine AR.const ?_
    refine EV.str ?_
    refine AR.nil ?_
    refine ⟨two, ?_⟩
    refine AR.tupl ?_
    refine EV.tuple ?_
    refine AR.const ?_
    refine EV.str ?_
    refine AR.const ?_
    refine EV.str ?_
    refine AR.nil ?_
    refine ⟨two, ?_⟩
    refine AR.tupl ?_
    refine EV.tuple ?_
    refine AR.const ?_
    refine EV.str ?_
    refine AR.const ?_
    refine EV.str ?_
    refine AR.nil ?_
    refine ⟨two, ?_⟩
    refine AR.tupl ?_
    refine EV.tuple ?_
    refine AR.const ?_
    refine EV.str ?_
    refine AR.const ?_
    refine EV.str ?_
    refine AR.nil ?_
    refine ⟨two, ?_⟩
    refine AR.nil ?_
    refine ⟨lit_sizeLine (show (5 : Nat) ≤ 2 ^ 21 by decide), ?_⟩
    refine EV.callR fn_law_draw (by omega) (AR.cons (EV.name (d := .mut a₀) rfl (AR.cons (EV.int (AR.nil ⟨a₀, [], (cells, n, 5), rfl, List.Perm.refl _, ⟨⟨hpos, hlen, hn⟩, show 0 < 5 by decide, show 5 ≤ 1000 by decide⟩, ?_⟩)))))
    rintro d c' ⟨rfl, r, hr, rfl⟩
    have hr5 : r < 5 := hr
    obtain ⟨f, t, hm, hd⟩ := leads_at r hr5
    obtain ⟨lf, lt, alf, alt, hstrip⟩ := leads_facts _ hm
    simp only at lf lt alf alt hstrip
    refine ⟨leadsD, r, _, .inl rfl, rfl, by omega, by unfold itemAt; rw [if_pos (Int.natCast_nonneg r), Int.toNat_natCast]; exact hd, ?_⟩
    refine AS.tuple ⟨rfl, AS.name ⟨rfl, AS.name ?_⟩⟩ rfl
    refine EX.cons (EX1.assign (EV.listOwn (AR.nil ⟨lit_sizeLine (by decide), fun b hb hneb => ?_⟩)))
    refine EX.cons (EX1.for_ (IT.range (EV.binop (EV.int (EV.callR fn_law_draw (by omega) (AR.cons (EV.name (d := .mut a₀) rfl (AR.cons (EV.int (AR.nil ⟨a₀, [(b, .lst [])], (cells, n + 1, 3), rfl, List.Perm.swap _ _ _, ⟨⟨hpos, hlen, by simp only; omega⟩, show 0 < 3 by decide, show 3 ≤ 1000 by decide⟩, ?_⟩))))))))))
    rintro d c' ⟨rfl, r3, hr3, rfl⟩
    have hr3' : r3 < 3 := hr3
    refine OpOk.add_int ⟨1 + r3, by rw [Int.natCast_add]; rfl, by omega, ?_⟩
    refine ⟨fun k μ own => ∃ (lines : List (List WS)) (n' : Nat), MuSub ([("deck", .mut a₀), ("has_stops", .bool st), ("first", .str (S f)), ("rest", .str (S t)), ("rows_own", .mut b)] : Mu) μ ∧
        own.Perm [(a₀, .lst (DK cells n')), (b, .lst (dS ((placeB f t (lines.map flat)).map S)))] ∧ lines.length = k ∧ n' ≤ n + 2 + 12 * k ∧ (∀ l ∈ lines, LineOk st l) ∧ ((lines.map List.length).sum ≤ 5 * k),
      ⟨[], n + 2, ⟨rfl, rfl, rfl, rfl, rfl, trivial⟩, List.Perm.refl _, rfl, by omega, nofun, by simp⟩, ?_, ?_⟩
    · rintro k μ own hk2 ⟨lines, n', hsub, hp, hlines, hn', hl1, hl2⟩
      refine AS.name (EX.sub (μ' := ([("deck", .mut a₀), ("has_stops", .bool st), ("first", .str (S f)), ("rest", .str (S t)), ("rows_own", .mut b), ("beat", .int k)] : Mu)) ⟨by rw [Mu.get_set]; exact hsub.1, by rw [Mu.get_set]; exact hsub.2.1, by rw [Mu.get_set]; exact hsub.2.2.1, by rw [Mu.get_set]; exact hsub.2.2.2.1, by rw [Mu.get_set]; exact hsub.2.2.2.2.1, by rw [Mu.get_set]; rfl, trivial⟩ (EX.ownPerm hp ?_))
      refine EX.cons (EX1.assign (EV.mono (P := fun d o => ∃ (bl : List Int) (n'' : Nat), d = .str (S bl) ∧ o = [(a₀, .lst (DK cells n'')), (b, .lst (dS ((placeB f t (lines.map flat)).map S)))] ∧ (bl = [32] ∨ bl = [32, 32]) ∧ n'' ≤ n' + 1) ?_ ?_))
      · refine EV.ifexp (TS.value (EV.name (d := .bool st) rfl ⟨st, rfl, fun hst => ?_, fun hst => EV.str ⟨[32], n', by rw [S1], rfl, .inl rfl, by omega⟩⟩))
        refine EV.index ?_ ?_
        rotate_left
        · intro _ _
          with_unfolding_all rfl
        refine EV.list ?_
        refine AR.const ?_
        refine EV.str ?_
        refine AR.const ?_
        refine EV.str ?_
        refine AR.nil ?_
        refine ⟨two, ?_⟩
        refine EV.callR fn_law_draw (by omega) (AR.cons (EV.name (d := .mut a₀) rfl (AR.cons (EV.int (AR.nil ⟨a₀, [(b, .lst (dS ((placeB f t (lines.map flat)).map S)))], (cells, n', 2), rfl, List.Perm.refl _, ⟨⟨hpos, hlen, by simp only; omega⟩, show 0 < 2 by decide, show 2 ≤ 1000 by decide⟩, ?_⟩)))))
        rintro d c' ⟨rfl, r2, hr2, rfl⟩
        have hr2' : r2 < 2 := hr2
        match r2, hr2' with
        | 0, _ => exact ⟨[.str " ", .str "  "], 0, .str " ", .inl rfl, rfl, by omega, rfl, [32], n' + 1, by rw [S1], rfl, .inl rfl, by omega⟩
        | 1, _ => exact ⟨[.str " ", .str "  "], 1, .str "  ", .inl rfl, rfl, by omega, rfl, [32, 32], n' + 1, by rw [S2], rfl, .inr rfl, by omega⟩
      rintro d o ⟨bl, n'', rfl, rfl, hbl, hn''⟩
      have hbl2 : bl.length ≤ 2 := by rcases hbl with e | e <;> rw [e] <;> simp
      refine EX.cons (EX1.expr (EV.append (EV.name (d := .mut b) rfl ⟨b, _, [(a₀, .lst (DK cells n''))], rfl, List.Perm.swap _ _ _, EV.binop (EV.mono (P := fun d o => d = .str (S (if lines.length = 0 then f else t)) ∧ o = [(a₀, .lst (DK cells n'')), (b, .lst (dS ((placeB f t (lines.map flat)).map S)))]) ?_ ?_)⟩)))
      · refine EV.ifexp (TS.cmp (EV.name (d := .int k) rfl (EV.int (OpOk.eq_int ⟨_, rfl, fun b1 => ?_, fun b1 => ?_⟩))))
        · have : lines.length = 0 := by simp at b1; omega
          exact EV.name (d := .str (S f)) rfl ⟨by rw [if_pos this], rfl⟩
        · have : lines.length ≠ 0 := by simp at b1; omega
          exact EV.name (d := .str (S t)) rfl ⟨by rw [if_neg this], rfl⟩
      rintro d o ⟨rfl, rfl⟩
      refine EV.join (EV.name (d := .str (S bl)) rfl ⟨S bl, rfl, EV.callR fn_law_words (by omega) (AR.cons (EV.name (d := .mut a₀) rfl (AR.cons (EV.name (d := .bool st) rfl (AR.nil ⟨a₀, [(b, .lst (dS ((placeB f t (lines.map flat)).map S)))], (cells, n'', st), rfl, List.Perm.refl _, ⟨⟨hpos, hlen, by simp only; omega⟩, by simp only; omega⟩, ?_⟩)))))⟩)
      rintro d c' ⟨ws, n3, rfl, hn3, rfl, hws, hws5, hw⟩
      simp only at hn3 hw
      have hsum := words_sum hw
      have hline := lineOf_ok hbl hws hw
      have hbody : (flat (lineOf bl ws)).length ≤ 45 := by
        have h1 := hline.length
        have h2 : (lineOf bl ws).length = ws.length := List.length_map _
        omega
      refine ⟨ws.map S, rfl, joinOk_S (by have : ws.length * bl.length ≤ ws.length * 2 := Nat.mul_le_mul_left _ hbl2; omega), ?_⟩
      rw [Txt_join, inter_words]
      have hlead : (if lines.length = 0 then f else t).length ≤ 4 := by split; exact lf.2; exact lt.2
      refine OpOk.add_str (lit_sizeLine (by rw [S_length, S_length]; omega)) ⟨dS ((placeB f t (lines.map flat)).map S), [(a₀, .lst (DK cells n3))], List.Perm.swap _ _ _, lit_sizeLine (by simp only [dS, List.length_map, placeB_length]; omega), rfl, ?_⟩
      refine EX.nil ⟨lines ++ [lineOf bl ws], n3, ⟨rfl, rfl, rfl, rfl, rfl, trivial⟩, ?_, by rw [List.length_append, hlines]; rfl, by omega, fun l hl => ?_, ?_⟩
      · rw [← S_append, List.map_append, List.map_cons, List.map_nil, placeB_snoc, List.map_append, List.length_map]
        simp only [dS, List.map_append, List.map_cons, List.map_nil]
        exact List.Perm.swap _ _ _
      · rcases List.mem_append.mp hl with hl | hl
        · exact hl1 l hl
        · rw [List.mem_singleton.mp hl]; exact hline
      · rw [List.map_append, List.sum_append, List.map_cons, List.map_nil, List.sum_cons, List.sum_nil]
        have h2 : (lineOf bl ws).length = ws.length := List.length_map _
        omega
    · rintro μ own ⟨lines, n', hsub, hp, hlines, hn', hl1, hl2⟩
      let P : Par := ⟨f, t, lines⟩
      have hP : ParOk st P := ⟨fun e => by
        have : lines.length = 0 := by rw [show lines = [] from e]; rfl
        omega, hl1, alf, alt⟩
      have hB : ParB P := ⟨lf, lt, by rw [Par.words_length]; show (lines.map List.length).sum ≤ 15; omega⟩
      have hrl : (P.rows.map S).length = lines.length := by rw [List.length_map]; show (placeB f t (lines.map flat)).length = _; rw [placeB_length, List.length_map]
      have fin : ∀ y, y = S P.rest' → ∃ d c', FlowD.ret (.tup [.list (dS (P.rows.map S)), .str (S f), .str y]) = .ret d ∧ (a₀, Cell.lst c') ∈ [(a₀, Cell.lst (DK cells n'))] ∧ ∃ (P : Par) (m : Nat), c' = DK cells m ∧ m ≤ n + 40 ∧ d = .tup [.list (dS (P.rows.map S)), .str (S P.first), .str (S P.rest')] ∧ ParOk st P ∧ ParB P := fun y hy =>
        ⟨_, _, rfl, List.mem_singleton.mpr rfl, P, n', rfl, by omega, by rw [hy], hP, hB⟩
      refine EX.sub hsub (EX.ownPerm hp ?_)
      refine EX.freeze (a := b) (ds := dS (P.rows.map S)) (μ' := ([("first", .str (S f)), ("rest", .str (S t)), ("rows_own", .list (dS (P.rows.map S)))] : Mu)) (own' := [(a₀, .lst (DK cells n'))]) (List.Perm.swap _ _ _) hneb ⟨.inl rfl, .inl rfl, .inr ⟨rfl, rfl⟩, trivial⟩ ?_
      refine EX.cons (EX1.ret (EV.tuple (AR.cons (EV.name (d := .list (dS (P.rows.map S))) rfl (AR.cons (EV.name (d := .str (S f)) rfl (AR.cons (EV.ifexp (TS.cmp (EV.callB (by decide) (by decide) (AR.cons (EV.name (d := .list (dS (P.rows.map S))) rfl (AR.nil (CallOk.len_list ?_ (EV.int (OpOk.gt_int ⟨_, rfl, fun b1 => ?_, fun b1 => ?_⟩))))))))))))))))
      · rw [dS, List.length_map, hrl]; exact lit_sizeLine (by omega)
      · rw [dS, List.length_map, hrl] at b1
        have h1 : 1 < lines.length := by simp at b1; omega
        refine EV.name (d := .str (S t)) rfl (AR.nil ⟨lit_sizeLine (show (3 : Nat) ≤ 2 ^ 21 by decide), fin _ ?_⟩)
        show S t = S (restOf f t lines.length)
        unfold restOf; rw [if_pos h1]
      · rw [dS, List.length_map, hrl] at b1
        have h1 : ¬ 1 < lines.length := by simp at b1; omega
        refine EV.ifexp (TS.cmp (EV.strip (EV.name (d := .str (S f)) rfl ⟨S f, rfl, lit_sizeLine (by rw [S_length]; have := lf.2; omega), EV.str (OpOk.eq_str ⟨_, rfl, fun b2 => ?_, fun b2 => ?_⟩)⟩)))
        · refine EV.name (d := .str (S f)) rfl (AR.nil ⟨lit_sizeLine (show (3 : Nat) ≤ 2 ^ 21 by decide), fin _ ?_⟩)
          show S f = S (restOf f t lines.length)
          rw [hstrip] at b2
          unfold restOf; rw [if_neg h1, if_pos b2]
        · refine EV.str (AR.nil ⟨lit_sizeLine (show (3 : Nat) ≤ 2 ^ 21 by decide), fin _ ?_⟩)
          show ("" : Str) = S (restOf f t lines.length)
          rw [hstrip] at b2
          unfold restOf; rw [if_neg h1, if_neg (by rw [b2]; exact Bool.false_ne_true), S_empty]
end Fill66
end
noncomputable section
open PySem PySem.W PyProof.Rows
set_option maxRecDepth 100000
set_option maxHeartbeats 1000000
namespace Fill66

theorem spJ_inter (own : List (List Int)) : spJ own = inter [32] own := (inter_words [32] own).symm
theorem spJ_split {own : List (List Int)} (hne : own ≠ []) (h : ∀ w ∈ own, Word false w) : Txt.split (S (spJ own)) " " = own.map S := by
  rw [spJ_inter, ← S1]
  refine split_one (by omega) hne fun w hw => ⟨fun hm => ?_, fun c hc => ?_⟩
  · have := (h w hw).chars 32 hm; omega
  · have := (h w hw).chars c hc; omega
theorem spJ_length {own : List (List Int)} (h : ∀ w ∈ own, Word false w) : (spJ own).length ≤ 9 * own.length := by
  have := flat_length (l := own.map fun w => (w, [32])) fun p hp => by
    obtain ⟨w, hw, rfl⟩ := List.mem_map.mp hp
    exact ⟨(h w hw).length.2, by simp⟩
  rw [List.length_map] at this
  exact this
theorem placeB_get {f t : List Int} {bs : List (List Int)} {k : Nat} {b : List Int} (h : bs[k]? = some b) : (placeB f t bs)[k]? = some ((if k = 0 then f else t) ++ b) := by
  cases bs with
  | nil => cases h
  | cons c cs =>
    cases k with
    | zero => cases h; rfl
    | succ k =>
      show (cs.map (t ++ ·))[k]? = some _
      rw [List.getElem?_map, show cs[k]? = some b by simpa using h]; rfl
theorem flatten_split {owns : List (List (List Int))} {k : Nat} {own : List (List Int)} (h : owns[k]? = some own) : owns.flatten = (owns.take k).flatten ++ (own ++ (owns.drop (k + 1)).flatten) := by
  obtain ⟨hk, e⟩ := List.getElem?_eq_some_iff.mp h
  conv => lhs; rw [← List.take_append_drop k owns, List.drop_eq_getElem_cons hk, e]
  simp
theorem flatten_take_succ {owns : List (List (List Int))} {k : Nat} {own : List (List Int)} (h : owns[k]? = some own) : (owns.take (k + 1)).flatten = (owns.take k).flatten ++ own := by
  rw [List.take_add_one, h]; simp
theorem bigOk {n : Nat} (h : n ≤ 1000) : n ≤ sizeLine := lit_sizeLine (by omega)

section
variable {x : Cx} {env : Env} {μ : Mu} {own : Own}
theorem TS.mono {e : Expr} {P P' : Bool → Own → Prop} (h : TS x env μ own e P) (hp : ∀ b o, P b o → P' b o) : TS x env μ own e P' :=
  fun fr g s Q E w kk => h fr g s Q E w fun b o g' s' w' l' p => kk b o g' s' w' l' (hp b o p)
end
structure RightPre (q : List Int × List Int × Int × List (List (List Int))) : Prop where
  ok : RightOk q.1 q.2.1 q.2.2.1 q.2.2.2
  first : LeadOk q.1
  rest : LeadOk q.2.1
  many : q.2.2.2.flatten.length ≤ 15
  len : q.2.2.2.length ≤ 15

theorem fn_law_right : FN 42 0 ["rows_own", "words", "first", "rest", "column"] (fun q : List Int × List Int × Int × List (List (List Int)) => [.list (dS ((placeB q.1 q.2.1 (q.2.2.2.map spJ)).map S)), .list (dS (q.2.2.2.flatten.map S)), .str (S q.1), .str (S q.2.1), .int q.2.2.1]) RightPre (fun _ => .bool true) where
  binds := ⟨by decide, (fun vs pm code doc h => match vs, h with | [_, _, _, _, _], _ => rfl), by decide, rfl, rfl, rfl, by decide⟩
  isDef := rfl
  len := fun _ => rfl
  walk := fun x L a cd ⟨f, t, col, owns⟩ hk hl ⟨hok, hf, ht, hmany, hlen⟩ => by
    simp only at hok hf ht hmany hlen
    obtain ⟨rowsD, hrowsD⟩ : ∃ r, r = dS ((placeB f t (owns.map spJ)).map S) := ⟨_, rfl⟩
    obtain ⟨wordsD, hwordsD⟩ : ∃ r, r = dS (owns.flatten.map S) := ⟨_, rfl⟩
    have rl : rowsD.length = owns.length := by rw [hrowsD]; simp only [dS, List.length_map, placeB_length]
    have wl : wordsD.length = owns.flatten.length := by rw [hwordsD]; simp only [dS, List.length_map]
    show EX x _ ([("rows_own", .list (dS ((placeB f t (owns.map spJ)).map S))), ("words", .list (dS (owns.flatten.map S))), ("first", .str (S f)), ("rest", .str (S t)), ("column", .int col)] : Mu) [] _ _
    rw [← hrowsD, ← hwordsD]
    refine EX.cons (EX1.assign (EV.int ?_))
    refine EX.cons (EX1.for_ (IT.enum (EV.name (d := .list rowsD) rfl ⟨rowsD, rfl, ?_⟩)))
    refine ⟨fun k μ own => MuSub ([("rows_own", .list rowsD), ("words", .list wordsD), ("first", .str (S f)), ("rest", .str (S t)), ("column", .int col), ("at", .int ((owns.take k).flatten.length : Nat))] : Mu) μ ∧ own = [], ⟨⟨rfl, rfl, rfl, rfl, rfl, rfl, trivial⟩, rfl⟩, ?_, ?_⟩
    · rintro k μ own hk1 ⟨hsub, rfl⟩
      rw [rl] at hk1
      obtain ⟨own, hown⟩ : ∃ own, owns[k]? = some own := ⟨owns[k], List.getElem?_eq_getElem hk1⟩
      obtain ⟨hone, how⟩ := hok.ne own (List.mem_of_getElem? hown)
      obtain ⟨fit1, fit2⟩ := hok.fits k own hown
      obtain ⟨lead, hlead⟩ : ∃ l, l = (if k = 0 then f else t) := ⟨_, rfl⟩
      rw [← hlead] at fit1 fit2
      have hleadOk : LeadOk lead := by rw [hlead]; split; exact hf; exact ht
      have hrow : rowsD[k]? = some (.str (S (lead ++ spJ own))) := by
        rw [hrowsD, hlead]
        simp only [dS]
        rw [List.getElem?_map, List.getElem?_map, placeB_get (b := spJ own) (by rw [List.getElem?_map, hown]; rfl)]; rfl
      have hrowD : rowsD.getD k .none = .str (S (lead ++ spJ own)) := by rw [List.getD_eq_getElem?_getD, hrow]; rfl
      have hsp := spJ_length how
      have hsplit := flatten_split hown
      have hownlen : own.length ≤ 15 := by
        have := congrArg List.length hsplit
        simp only [List.length_append] at this
        omega
      have hrowlen : (lead ++ spJ own).length ≤ 200 := by rw [List.length_append]; have := hleadOk.2; omega
      obtain ⟨at0, hat0⟩ : ∃ n, n = (owns.take k).flatten.length := ⟨_, rfl⟩
      rw [← hat0] at hsub
      have hat1 : (owns.take (k + 1)).flatten.length = at0 + own.length := by rw [flatten_take_succ hown, List.length_append, hat0]
      show AS x _ μ [] _ (.tup [.int k, rowsD.getD k .none]) _
      rw [hrowD]
      refine AS.tuple ⟨rfl, AS.name ⟨rfl, AS.name ?_⟩⟩ rfl
      refine EX.sub (μ' := ([("rows_own", .list rowsD), ("words", .list wordsD), ("first", .str (S f)), ("rest", .str (S t)), ("column", .int col), ("at", .int at0), ("place", .int k), ("row", .str (S (lead ++ spJ own)))] : Mu)) ⟨by rw [Mu.get_set, Mu.get_set]; exact hsub.1, by rw [Mu.get_set, Mu.get_set]; exact hsub.2.1, by rw [Mu.get_set, Mu.get_set]; exact hsub.2.2.1, by rw [Mu.get_set, Mu.get_set]; exact hsub.2.2.2.1, by rw [Mu.get_set, Mu.get_set]; exact hsub.2.2.2.2.1, by rw [Mu.get_set, Mu.get_set]; exact hsub.2.2.2.2.2.1, by rw [Mu.get_set, Mu.get_set]; rfl, by rw [Mu.get_set]; rfl, trivial⟩ ?_
      refine EX.cons (EX1.assign (EV.mono (P := fun d o => d = .str (S lead) ∧ o = []) ?_ ?_))
      · refine EV.ifexp (TS.cmp (EV.name (d := .int k) rfl (EV.int (OpOk.eq_int ⟨_, rfl, fun b1 => ?_, fun b1 => ?_⟩))))
        · have : k = 0 := by simp at b1; omega
          exact EV.name (d := .str (S f)) rfl ⟨by rw [hlead, if_pos this], rfl⟩
        · have : k ≠ 0 := by simp at b1; omega
          exact EV.name (d := .str (S t)) rfl ⟨by rw [hlead, if_neg this], rfl⟩
      rintro d o ⟨rfl, rfl⟩
      have leadlen : (S lead).length ≤ sizeLine := bigOk (by rw [S_length]; have := hleadOk.2; omega)
      have rowlen : (S (lead ++ spJ own)).length ≤ sizeLine := bigOk (by rw [S_length]; omega)
      refine EX.cons (EX1.if_ (TS.cmp (EV.strSlice (EV.name (d := .str (S (lead ++ spJ own))) rfl ⟨_, rfl, rowlen, PT.zero (PT.one (EV.callB (by decide) (by decide) (AR.cons (EV.name (d := .str (S lead)) rfl (AR.nil (CallOk.len_str leadlen ⟨lead.length, by rw [S_length], EV.name (d := .str (S lead)) rfl (OpOk.ne_str ?_)⟩))))))⟩))))
      have e1 : Txt.slice (S (lead ++ spJ own)) (partZ none) (partZ (some lead.length)) = S lead := slice_to
      rw [e1]
      refine ⟨_, rfl, fun b1 => by simp at b1, fun _ => EX.nil ?_⟩
      refine EX.cons (EX1.assign (EV.split1 (EV.strSlice (EV.name (d := .str (S (lead ++ spJ own))) rfl ⟨_, rfl, rowlen, PT.one (EV.callB (by decide) (by decide) (AR.cons (EV.name (d := .str (S lead)) rfl (AR.nil (CallOk.len_str leadlen ⟨lead.length, by rw [S_length], PT.zero ?_⟩)))))⟩))))
      have e2 : Txt.slice (S (lead ++ spJ own)) (partZ (some lead.length)) (partZ none) = S (spJ own) := slice_from
      rw [e2]
      refine ⟨S (spJ own), rfl, bigOk (by rw [S_length]; omega), EV.str ⟨_, rfl, by decide, ?_⟩⟩
      rw [spJ_split hone how]
      obtain ⟨ownD, hownD⟩ : ∃ r, r = dS (own.map S) := ⟨_, rfl⟩
      have ol : ownD.length = own.length := by rw [hownD]; simp only [dS, List.length_map]
      have hcut : cut wordsD (some at0) (some (at0 + own.length)) = ownD := by
        rw [hwordsD, hownD]
        simp only [dS]
        rw [cut_map, cut_map]
        congr 2
        unfold cut
        simp only [Option.elim, id]
        rw [hsplit, ← List.append_assoc, hat0, show (owns.take k).flatten.length + own.length = ((owns.take k).flatten ++ own).length by rw [List.length_append], List.take_left, List.drop_left]
      rw [← hownD]
      have sok : ∀ n ∈ own.map S, PyData.strOk n = true := fun n hn => by
        obtain ⟨w, hw, rfl⟩ := List.mem_map.mp hn
        exact S_strOk fun c hc => by have := (how w hw).chars c hc; omega
      have collen : ((own.length : Int) ≤ 1) ∨ ¬ col < ((lead ++ spJ own).length : Int) := by
        rcases Nat.lt_or_ge 1 own.length with h | h
        · right; have := fit1 h; rw [List.length_append]; omega
        · left; omega
      refine EX.cons (EX1.if_ (TS.mono (P := fun b o => b = false ∧ o = []) ?_ ?_))
      · refine TS.boolop (TA.or (TS.cmp (EV.name (d := .list ownD) rfl (EV.slice (EV.name (d := .list wordsD) rfl ⟨wordsD, rfl, bigOk (by rw [wl]; omega), PT.one (EV.name (d := .int at0) rfl ⟨at0, rfl, PT.one ?_⟩)⟩)))))
        refine EV.binop (EV.name (d := .int at0) rfl (EV.callB (by decide) (by decide) (AR.cons (EV.name (d := .list ownD) rfl (AR.nil (CallOk.len_list (bigOk (by rw [ol]; omega)) (OpOk.add_int ⟨at0 + own.length, by rw [ol]; rfl, ?_⟩)))))))
        rw [hcut, hownD]
        refine OpOk.ne_strs sok sok ⟨_, rfl, fun _ => ?_, fun b1 => by simp at b1⟩
        rw [← hownD]
        refine TA.or (TS.boolop (TA.and (TS.cmp (EV.callB (by decide) (by decide) (AR.cons (EV.name (d := .str (S (lead ++ spJ own))) rfl (AR.nil (CallOk.len_str rowlen (EV.name (d := .int col) rfl (OpOk.gt_int ⟨_, rfl, fun b2 => ?_, fun b2 => ⟨fun _ => TA.orNil ⟨rfl, rfl⟩, nofun⟩⟩))))))))))
        refine TA.and (TS.cmp (EV.callB (by decide) (by decide) (AR.cons (EV.name (d := .list ownD) rfl (AR.nil (CallOk.len_list (bigOk (by rw [ol]; omega)) (EV.int (OpOk.gt_int ⟨_, rfl, fun b3 => ?_, fun b3 => ⟨fun _ => TA.orNil ⟨rfl, rfl⟩, nofun⟩⟩))))))))
        exfalso
        rw [S_length] at b2
        rw [ol] at b3
        simp only [decide_eq_true_eq] at b2 b3
        omega
      rintro b o ⟨rfl, rfl⟩
      refine ⟨nofun, fun _ => EX.nil ?_⟩
      refine EX.cons (EX1.assign (EV.binop (EV.name (d := .int at0) rfl (EV.callB (by decide) (by decide) (AR.cons (EV.name (d := .list ownD) rfl (AR.nil (CallOk.len_list (bigOk (by rw [ol]; omega)) (OpOk.add_int ?_)))))))))
      have e3 : ((at0 : Int) + (ownD.length : Int)) = ((at0 + own.length : Nat) : Int) := by rw [ol]; omega
      rw [e3, ← hat1]
      obtain ⟨at1, hat1'⟩ : ∃ n, n = (owns.take (k + 1)).flatten.length := ⟨_, rfl⟩
      rw [← hat1']
      have done : MuSub ([("rows_own", .list rowsD), ("words", .list wordsD), ("first", .str (S f)), ("rest", .str (S t)), ("column", .int col), ("at", .int ((owns.take (k + 1)).flatten.length : Nat))] : Mu) ([("rows_own", .list rowsD), ("words", .list wordsD), ("first", .str (S f)), ("rest", .str (S t)), ("column", .int col), ("at", .int at1), ("place", .int k), ("row", .str (S (lead ++ spJ own))), ("lead", .str (S lead)), ("own", .list ownD)] : Mu) := ⟨rfl, rfl, rfl, rfl, rfl, by rw [← hat1']; rfl, trivial⟩
      refine EX.sub (μ' := ([("rows_own", .list rowsD), ("words", .list wordsD), ("first", .str (S f)), ("rest", .str (S t)), ("column", .int col), ("at", .int at1), ("place", .int k), ("row", .str (S (lead ++ spJ own))), ("lead", .str (S lead)), ("own", .list ownD)] : Mu)) ⟨rfl, rfl, rfl, rfl, rfl, rfl, rfl, rfl, rfl, rfl, trivial⟩ ?_
      refine EX.cons (EX1.if_ (TS.boolop (TA.and (TS.cmp (EV.name (d := .int k) rfl (EV.binop (EV.callB (by decide) (by decide) (AR.cons (EV.name (d := .list rowsD) rfl (AR.nil (CallOk.len_list (bigOk (by rw [rl]; omega)) (EV.int (OpOk.sub_int (OpOk.lt_int ⟨_, rfl, fun b1 => ?_, fun b1 => ⟨nofun, fun _ => EX.nil (EX.nil ⟨done, rfl⟩)⟩⟩))))))))))))))
      rw [rl] at b1
      have hk2 : k + 1 < owns.length := by simp only [decide_eq_true_eq] at b1; omega
      obtain ⟨q, r, hqr⟩ : ∃ q r, (owns.drop (k + 1)).flatten = q :: r := by
        obtain ⟨nx, hnx⟩ : ∃ nx, owns[k + 1]? = some nx := ⟨owns[k + 1], List.getElem?_eq_getElem hk2⟩
        have hnn := (hok.ne nx (List.mem_of_getElem? hnx)).1
        obtain ⟨hk3, e⟩ := List.getElem?_eq_some_iff.mp hnx
        rw [List.drop_eq_getElem_cons hk3, e]
        cases nx with
        | nil => exact absurd rfl hnn
        | cons q r => exact ⟨q, _, rfl⟩
      have hfit := fit2 q r hqr
      have hq : wordsD[at1]? = some (.str (S q)) := by
        rw [hwordsD]
        simp only [dS]
        rw [List.getElem?_map, List.getElem?_map, hsplit, hqr, ← List.append_assoc, ← flatten_take_succ hown, hat1', List.getElem?_append_right (Nat.le_refl _), Nat.sub_self]; rfl
      have hat1le : at1 ≤ 15 := by
        have := (List.getElem?_eq_some_iff.mp hq).1
        omega
      have hqlen : (S q).length ≤ sizeLine := by
        have hqm : q ∈ owns.flatten := by rw [hsplit, hqr]; simp
        obtain ⟨o, ho, hqo⟩ := List.mem_flatten.mp hqm
        have := ((hok.ne o ho).2 q hqo).length
        exact bigOk (by rw [S_length]; omega)
      refine TA.and (TS.cmp (EV.binop (EV.binop (EV.callB (by decide) (by decide) (AR.cons (EV.name (d := .str (S (lead ++ spJ own))) rfl (AR.nil (CallOk.len_str rowlen (EV.int (OpOk.add_int ?_))))))))))
      refine EV.callB (by decide) (by decide) (AR.cons (EV.index (EV.name (d := .list wordsD) rfl (EV.name (d := .int at1) rfl ⟨wordsD, at1, .str (S q), .inl rfl, rfl, by omega, by unfold itemAt; rw [if_pos (Int.natCast_nonneg at1), Int.toNat_natCast]; exact hq, AR.nil (CallOk.len_str hqlen (OpOk.add_int (EV.name (d := .int col) rfl (OpOk.le_int ⟨_, rfl, fun b2 => ?_, fun b2 => ⟨nofun, fun _ => EX.nil (EX.nil ⟨done, rfl⟩)⟩⟩))))⟩))))
      exfalso
      rw [S_length, S_length] at b2
      simp only [decide_eq_true_eq, List.length_append] at b2
      omega
    · rintro μ own ⟨hsub, rfl⟩
      rw [rl, List.take_of_length_le (Nat.le_refl _)] at hsub
      refine EX.sub (μ' := ([("words", .list wordsD), ("at", .int (owns.flatten.length : Nat))] : Mu)) ⟨hsub.2.1, hsub.2.2.2.2.2.1, trivial⟩ ?_
      refine EX.cons (EX1.ret (EV.cmp (EV.name (d := .int (owns.flatten.length : Nat)) rfl (EV.callB (by decide) (by decide) (AR.cons (EV.name (d := .list wordsD) rfl (AR.nil (CallOk.len_list (bigOk (by rw [wl]; omega)) (OpOk.eq_int ?_)))))))))
      show FlowD.ret _ = _
      rw [wl]; simp
end Fill66
end
noncomputable section
open PySem PySem.W PyProof.Rows
set_option maxRecDepth 100000
set_option maxHeartbeats 1000000
namespace Fill66

def planD (P : Par) : D := .tup [.list (dS (P.words.map S)), .str (S P.first), .str (S P.rest')]
def rowScope : Scope := { kind := .function, names := [(".0", .local), ("row", .local)], isGenerator := false, isCoroutine := false, more := [] }
def stripD : D → D
  | .str y => .str (Txt.lstripChars y " >")
  | d => d
theorem map_stripD (l : List Str) : (dS l).map stripD = dS (l.map fun y => Txt.lstripChars y " >") := by
  unfold dS
  rw [List.map_map, List.map_map]; rfl

section
variable {x : Cx} {env : Env} {μ : Mu} {own : Own}
theorem EV.stripRows {iter : Expr} {k : Nat} {p1 p2 p3 p4 p5 cpos : Pos} {Pr : Par} {st : Bool} {P : D → Own → Prop} (hok : ParOk st Pr) (hb : ParB Pr)
    (h : EV x env μ own iter fun d o => d = .list (dS (Pr.rows.map S)) ∧ P (.list (dS ((Pr.lines.map flat).map S))) o) (hl : (p2.endLine == p4.line) = true := by rfl) (hs : ∀ v, foldedSetIterable iter env v = pure v := by intro _; rfl) :
    EV x env μ own (.ListComp (.Call (.Attribute (.Name "row" p1) "lstrip" p2) [.Constant (.str " >") k p3] [] p4) [⟨.Name "row" p5, iter, [], 0⟩] rowScope cpos) P := by
  refine EV.comp .none stripD (h.mono fun d o p => ?_) (by decide) rfl (by decide) (by decide) hs
  obtain ⟨rfl, hP⟩ := p
  have hrl : (Pr.rows.map S).length ≤ 1000 := by
    have h1 := Par.rows_sum hok hb
    have h2 := rowSum_length Pr.rows
    rw [List.length_map]; omega
  refine ⟨_, rfl, bigOk (by simp only [dS, List.length_map] at hrl ⊢; exact hrl), fun x' L' μ' e hk he => ?_, ?_⟩
  · obtain ⟨y, hy, rfl⟩ := List.mem_map.mp he
    obtain ⟨r, hr, rfl⟩ := List.mem_map.mp hy
    have hlen : r.length ≤ 1000 := by
      have h1 := Par.rows_sum hok hb
      have h2 := rowSum_mem hr
      omega
    refine AS.name ?_
    refine EV.lstripChars (EV.name (d := .str (S r)) (by rw [Mu.get_set]; rfl) ⟨S r, rfl, bigOk (by rw [S_length]; exact hlen), EV.str ⟨_, rfl, rfl, rfl⟩⟩) rfl rfl hl
  · rw [map_stripD, lstrip_rows hok hb]; exact hP
end

/-- from the parting on -/
theorem law_tail (x : Cx) (L a : Addr) (cd : Value) (st : Bool) (Ps : List Par) (cells : List Int) (n : Nat) (col : Int) (a₀ bt bp : Addr) (hk : 7 ≤ x.k) (hl : x.lent = none)
    (hdk : DeckOk cells n) (hne : Ps ≠ []) (hmany : Ps.length ≤ 2) (hok : ∀ P ∈ Ps, ParOk st P ∧ ParB P) (hn : n ≤ 1000) :
    EX x (envOf (dr 43).name (dr 43).scope L a cd) ([("deck", .mut a₀), ("has_stops", .bool st), ("column", .int col), ("many", .int Ps.length), ("filling", .fill col), ("texts", .mut bt), ("plans", .mut bp)] : Mu)
      [(a₀, .lst (DK cells n)), (bt, .lst (dS (textsOf Ps))), (bp, .lst (Ps.map planD))] ((dr 43).body.drop 4) fun fd _ _ => fd = .ret (.bool true) := by
  obtain ⟨hpos, hlen, hn'⟩ := hdk
  have hnone : ∀ b : Addr, x.lent ≠ some b := fun b => by rw [hl]; nofun
  refine EX.freeze (a := bt) (ds := dS (textsOf Ps)) (μ' := ([("deck", .mut a₀), ("has_stops", .bool st), ("column", .int col), ("many", .int Ps.length), ("filling", .fill col), ("texts", .list (dS (textsOf Ps))), ("plans", .mut bp)] : Mu)) (own' := [(a₀, .lst (DK cells n)), (bp, .lst (Ps.map planD))]) (List.Perm.swap _ _ _) (hnone bt) ⟨.inl rfl, .inl rfl, .inl rfl, .inl rfl, .inl rfl, .inr ⟨rfl, rfl⟩, .inl rfl, trivial⟩ ?_
  refine EX.freeze (a := bp) (ds := Ps.map planD) (μ' := ([("deck", .mut a₀), ("has_stops", .bool st), ("column", .int col), ("many", .int Ps.length), ("filling", .fill col), ("texts", .list (dS (textsOf Ps))), ("plans", .list (Ps.map planD))] : Mu)) (own' := [(a₀, .lst (DK cells n))]) (List.Perm.swap _ _ _) (hnone bp) ⟨.inl rfl, .inl rfl, .inl rfl, .inl rfl, .inl rfl, .inl rfl, .inr ⟨rfl, rfl⟩, trivial⟩ ?_
  refine EX.cons (EX1.assign (EV.mono (P := fun d o => ∃ sep n', SepOk sep ∧ d = .str (S (partOf sep)) ∧ o = [(a₀, .lst (DK cells n'))]) ?_ ?_))
  · refine EV.index ?_ ?_
    rotate_left
    · intro _ _
      with_unfolding_all rfl
    refine EV.list ?_
    refine AR.const ?_
    refine EV.str ?_
    refine AR.const ?_
    refine EV.str ?_
    refine AR.const ?_
    refine EV.str ?_
    refine AR.nil ?_
    refine ⟨lit_sizeLine (show (3 : Nat) ≤ 2 ^ 21 by decide), ?_⟩
    refine EV.callR fn_law_draw (by omega) (AR.cons (EV.name (d := .mut a₀) rfl (AR.cons (EV.int (AR.nil ⟨a₀, [], (cells, n, 3), rfl, List.Perm.refl _, ⟨⟨hpos, hlen, hn'⟩, show 0 < 3 by decide, show 3 ≤ 1000 by decide⟩, ?_⟩)))))
    rintro d c' ⟨rfl, r, hr, rfl⟩
    have hr3 : r < 3 := hr
    match r, hr3 with
    | 0, _ => exact ⟨_, 0, .str "\n\n", .inl rfl, rfl, by omega, rfl, [], n + 1, .inl rfl, by rw [show ("\n\n" : Str) = S (partOf []) by decide], rfl⟩
    | 1, _ => exact ⟨_, 1, .str "\n  \n", .inl rfl, rfl, by omega, rfl, [32, 32], n + 1, .inr (.inl rfl), by rw [show ("\n  \n" : Str) = S (partOf [32, 32]) by decide], rfl⟩
    | 2, _ => exact ⟨_, 2, .str "\n>\n", .inl rfl, rfl, by omega, rfl, [62], n + 1, .inr (.inr rfl), by rw [show ("\n>\n" : Str) = S (partOf [62]) by decide], rfl⟩
  rintro d o ⟨sep, n1, hsep, rfl, rfl⟩
  have hall : AllOk st sep Ps := ⟨hsep, hne, hmany, hok⟩
  obtain ⟨ht1, ht2⟩ := hall.text
  obtain ⟨hj1, hj2⟩ := texts_join hall
  obtain ⟨hc1, hc2⟩ := text_codes hall
  obtain ⟨hsgn, hsgn2⟩ := Sign.nn ht1
  refine EX.cons (EX1.compStr (fun c => .int (c : Int)) (EV.join (EV.name (d := .str (S (partOf sep))) rfl ⟨_, rfl, EV.name (d := .list (dS (textsOf Ps))) rfl ⟨textsOf Ps, rfl, hj1, ?_⟩⟩)))
  rw [hj2]
  refine ⟨S (textOf sep Ps), rfl, hc2, bigOk (by have := S_length (textOf sep Ps); unfold Str.length at this; omega), fun x' L' μ' c hk' => ?_, ?_⟩
  · refine AS.name ?_
    refine EV.callB (by decide) (by decide) (AR.cons (EV.name (d := .str ⟨#[c]⟩) (by rw [Mu.get_set]; rfl) (AR.nil (CallOk.ord ⟨rfl, rfl⟩))))
  rw [hc1]
  obtain ⟨Qs, hQs⟩ : ∃ Qs, Qs = Ps.map (Par.fill col) := ⟨_, rfl⟩
  have hall2 : AllOk st sep Qs := by rw [hQs]; exact hall.fill col
  have hfill : filledText col (textOf sep Ps) = textOf sep Qs := by rw [hQs]; exact hall.filled
  have hfill2 : filledText col (textOf sep Qs) = textOf sep Qs := by rw [hQs]; exact hall.twice
  obtain ⟨hu1, hu2⟩ := hall2.text
  have hok1 : TextOk col (textOf sep Ps) := hall.textOk
  have hok2 : TextOk col (textOf sep Qs) := hall2.textOk
  refine EX.cons (EX1.assign (EV.callF fn_filled_text (by omega) (AR.cons (EV.name (d := dL (textOf sep Ps)) rfl (AR.cons (EV.name (d := .fill col) rfl (AR.nil ⟨(textOf sep Ps, col), rfl, hok1, ?_⟩)))))))
  simp only
  rw [hfill]
  obtain ⟨once, honce⟩ : ∃ o, o = textOf sep Qs := ⟨_, rfl⟩
  rw [← honce] at hfill2 hu1 hu2 hok2 ⊢
  refine EX.sub (μ' := ([("has_stops", .bool st), ("column", .int col), ("many", .int Ps.length), ("filling", .fill col), ("plans", .list (Ps.map planD)), ("parting", .str (S (partOf sep))), ("once", dL once)] : Mu)) ⟨rfl, rfl, rfl, rfl, rfl, rfl, rfl, trivial⟩ ?_
  refine EX.cons (EX1.if_ (TS.mono (P := fun b o => b = false ∧ o = [(a₀, .lst (DK cells n1))]) ?_ ?_))
  · refine TS.boolop (TA.or (TS.cmp (EV.callF fn_filled_text (by omega) (AR.cons (EV.name (d := dL once) rfl (AR.cons (EV.name (d := .fill col) rfl (AR.nil ⟨(once, col), rfl, hok2, EV.name (d := dL once) rfl (OpOk.ne_ints ⟨_, rfl, fun _ => ?_, fun b1 => ?_⟩)⟩))))))))
    · refine TA.or (TS.not (TS.value (EV.callF fn_is_filled (by omega) (AR.cons (EV.name (d := dL once) rfl (AR.cons (EV.name (d := .fill col) rfl (AR.nil ⟨(once, col), rfl, hok2, _, rfl, fun _ => TA.orNil ⟨rfl, rfl⟩, fun b2 => ?_⟩))))))))
      simp only [hfill2] at b2
      simp at b2
    · simp only [hfill2] at b1
      simp at b1
  rintro b o ⟨rfl, rfl⟩
  refine ⟨nofun, fun _ => EX.nil ?_⟩
  obtain ⟨hj3, hj4⟩ := chr_join (l := once) (by omega)
  refine EX.cons (EX1.assign (EV.join (EV.str ⟨_, rfl, EV.comp .none (fun d => match d with | .int c => .str ⟨#[c.toNat]⟩ | d => d) (EV.name (d := dL once) rfl ⟨dI once, rfl, bigOk (by rw [dI_length]; omega), fun x' L' μ' e hk' he => ?_, once.map (fun c => (⟨#[c.toNat]⟩ : Str)), ?_, hj3, ?_⟩)⟩)))
  · obtain ⟨c, hc, rfl⟩ := List.mem_map.mp he
    have := hu1 c hc
    unfold Sign at this
    refine AS.name ?_
    exact EV.callB (by decide) (by decide) (AR.cons (EV.name (d := .int c) (by rw [Mu.get_set]; rfl) (AR.nil (CallOk.chr (by omega) (by omega) ⟨rfl, rfl⟩))))
  · unfold dI dS
    rw [List.map_map, List.map_map]; rfl
  rw [hj4, honce]
  refine EX.cons (EX1.assign (EV.split1 (EV.name (d := .str (S (textOf sep Qs))) rfl ⟨_, rfl, bigOk (by rw [S_length, ← honce]; omega), EV.name (d := .str (S (partOf sep))) rfl ⟨_, rfl, by rw [S_length]; simp [partOf], ?_⟩⟩)))
  rw [hall2.split]
  obtain ⟨pts, hpts⟩ : ∃ p, p = dS (Qs.map fun P => S (joinedRows P.rows)) := ⟨_, rfl⟩
  obtain ⟨pls, hpls⟩ : ∃ p, p = Ps.map planD := ⟨_, rfl⟩
  have ptl : pts.length = Ps.length := by rw [hpts, hQs]; simp only [dS, List.length_map]
  have pll : pls.length = Ps.length := by rw [hpls, List.length_map]
  rw [← hpts, ← hpls]
  refine EX.sub (μ' := ([("has_stops", .bool st), ("column", .int col), ("many", .int Ps.length), ("plans", .list pls), ("portions", .list pts)] : Mu)) ⟨rfl, rfl, rfl, rfl, rfl, trivial⟩ ?_
  refine EX.cons (EX1.if_ (TS.cmp (EV.callB (by decide) (by decide) (AR.cons (EV.name (d := .list pts) rfl (AR.nil (CallOk.len_list (bigOk (by omega)) (EV.name (d := .int Ps.length) rfl (OpOk.ne_int ⟨_, rfl, fun b1 => ?_, fun _ => EX.nil ?_⟩)))))))))
  · rw [ptl] at b1; simp at b1
  refine EX.cons (EX1.for_ (IT.zip (EV.name (d := .list pts) rfl (EV.name (d := .list pls) rfl ⟨pts, pls, rfl, rfl, by rw [ptl, pll], ?_⟩))))
  refine ⟨fun k μ own => MuSub ([("has_stops", .bool st), ("column", .int col)] : Mu) μ ∧ own = [(a₀, .lst (DK cells n1))], ⟨⟨rfl, rfl, trivial⟩, rfl⟩, ?_, ?_⟩
  · rintro k μ own hk1 ⟨hsub, rfl⟩
    rw [ptl] at hk1
    obtain ⟨P, hP⟩ : ∃ P, Ps[k]? = some P := ⟨Ps[k], List.getElem?_eq_getElem hk1⟩
    obtain ⟨h1, h2⟩ := hok P (List.mem_of_getElem? hP)
    have h3 : ParOk st (P.fill col) := Par.fill_ok h1
    have h4 : ParB (P.fill col) := h2.fill
    have e1 : pts.getD k .none = .str (S (joinedRows (P.fill col).rows)) := by
      rw [hpts, hQs, List.getD_eq_getElem?_getD]
      simp only [dS]
      rw [List.getElem?_map, List.getElem?_map, List.getElem?_map, hP]; rfl
    have e2 : pls.getD k .none = planD P := by
      rw [hpls, List.getD_eq_getElem?_getD, List.getElem?_map, hP]; rfl
    obtain ⟨j1, j2, j3⟩ := rows_join h3 h4
    obtain ⟨w1, w2, w3⟩ := words_join h3 h4
    have jl : (S (joinedRows (P.fill col).rows)).length + 2 ≤ sizeLine := bigOk (by rw [S_length]; omega)
    have hwords : (P.fill col).words = P.words := Par.fill_words P
    have hsok : ∀ n ∈ P.words.map S, PyData.strOk n = true := fun n hn => by
      obtain ⟨w, hw, rfl⟩ := List.mem_map.mp hn
      unfold Par.words at hw
      obtain ⟨l, hl, hw⟩ := List.mem_flatten.mp hw
      obtain ⟨ln, hln, rfl⟩ := List.mem_map.mp hl
      obtain ⟨p, hp, rfl⟩ := List.mem_map.mp hw
      exact S_strOk fun c hc => by have := ((h1.lines ln hln).2 p hp).1.chars c hc; omega
    show AS x _ μ _ _ (.tup [pts.getD k .none, pls.getD k .none]) _
    rw [e1, e2]
    refine AS.tuple ⟨rfl, AS.name ⟨rfl, AS.name ?_⟩⟩ rfl
    refine EX.sub (μ' := ([("has_stops", .bool st), ("column", .int col), ("part", .str (S (joinedRows (P.fill col).rows))), ("plan", planD P)] : Mu)) ⟨by rw [Mu.get_set, Mu.get_set]; exact hsub.1, by rw [Mu.get_set, Mu.get_set]; exact hsub.2.1, by rw [Mu.get_set, Mu.get_set]; rfl, by rw [Mu.get_set]; rfl, trivial⟩ ?_
    refine EX.cons (EX1.if_ (TS.cmp (EV.split0 (EV.join (EV.str ⟨_, rfl, EV.stripRows h3 h4 (EV.split1 (EV.name (d := .str (S (joinedRows (P.fill col).rows))) rfl ⟨_, rfl, jl, EV.str ⟨_, rfl, by decide, ?_⟩⟩))⟩)))))
    rw [rows_split h3 h4]
    refine ⟨rfl, _, rfl, w1, _, rfl, Nat.lt_of_le_of_lt w2 (Nat.lt_of_lt_of_le (show 1000 < 2 ^ 20 by decide) (lit_sizeLine (by decide))), ?_⟩
    rw [w3, hwords]
    refine EV.index (EV.name (d := planD P) rfl (EV.int ⟨_, 0, .list (dS (P.words.map S)), .inr rfl, rfl, by omega, rfl, OpOk.ne_strs hsok hsok ⟨_, rfl, fun b1 => by simp at b1, fun _ => EX.nil ?_⟩⟩))
    refine EX.cons (EX1.if_ (TS.mono (P := fun b o => b = false ∧ o = [(a₀, .lst (DK cells n1))]) ?_ ?_))
    · refine TS.boolop (TA.and (TS.not (TS.value (EV.name (d := .bool st) rfl ⟨st, rfl, fun b1 => ?_, fun b1 => ⟨rfl, rfl⟩⟩))))
      have hst : st = false := by simpa using b1
      rw [hst] at h1
      obtain ⟨r1, r2, r3⟩ := Par.right h1 col
      refine TA.and (TS.not (TS.value (EV.callF fn_law_right (by omega) (AR.cons (EV.split1 (EV.name (d := .str (S (joinedRows (P.fill col).rows))) rfl ⟨_, rfl, jl, EV.str ⟨_, rfl, by decide, ?_⟩⟩))))))
      rw [rows_split h3 h4]
      have pix : ∀ (j : Nat) (d : D) (Q : D → Own → Prop) {pp kk cp pos}, [D.list (dS (P.words.map S)), .str (S P.first), .str (S P.rest')][j]? = some d → j < 3 → Q d [(a₀, .lst (DK cells n1))] → EV x (envOf (dr 43).name (dr 43).scope L a cd) ([("has_stops", .bool st), ("column", .int col), ("part", .str (S (joinedRows (P.fill col).rows))), ("plan", planD P)] : Mu) [(a₀, .lst (DK cells n1))] (.Subscript (.Name "plan" pp) (.Constant (.int j) kk cp) pos) Q := fun j d Q pp kk cp pos hj hj3 hq =>
        EV.index (EV.name (d := planD P) rfl (EV.int ⟨_, j, d, .inr rfl, rfl, by omega, by unfold itemAt; rw [if_pos (Int.natCast_nonneg j), Int.toNat_natCast]; exact hj, hq⟩))
      refine AR.cons (pix 0 _ _ rfl (by decide) ?_)
      refine AR.cons (pix 1 _ _ rfl (by decide) ?_)
      refine AR.cons (pix 2 _ _ rfl (by decide) ?_)
      have hwl : (P.owns col).flatten.length ≤ 15 := by rw [r3]; exact h2.many
      refine AR.cons (EV.name (d := .int col) rfl (AR.nil ⟨(P.first, P.rest', col, P.owns col), ?_, ⟨r1, h2.first, h2.rest', hwl, ?_⟩, _, rfl, fun b2 => ?_, fun _ => ⟨rfl, rfl⟩⟩))
      · simp only [r2, r3]
      · have : ∀ ow : List (List (List Int)), (∀ o ∈ ow, o ≠ []) → ow.length ≤ ow.flatten.length := by
          intro ow
          induction ow with
          | nil => intro _; exact Nat.le_refl _
          | cons o t ih =>
            intro ho
            have i1 := ih fun o ho' => ho o (List.mem_cons_of_mem _ ho')
            have i2 := List.length_pos_iff.mpr (ho o List.mem_cons_self)
            rw [List.flatten_cons, List.length_append, List.length_cons]; omega
        exact Nat.le_trans (this _ fun o ho => (r1.ne o ho).1) hwl
      · cases b2
    rintro b o ⟨rfl, rfl⟩
    exact ⟨nofun, fun _ => EX.nil (EX.nil ⟨⟨rfl, rfl, trivial⟩, rfl⟩)⟩
  · rintro μ own ⟨hsub, rfl⟩
    exact EX.sub hsub (EX.cons (EX1.ret (EV.bool rfl)))
end Fill66
end
noncomputable section
open PySem PySem.W PyProof.Rows
set_option maxRecDepth 100000
set_option maxHeartbeats 1000000
namespace Fill66

def absD : D → D
  | .int i => .int (if i < 0 then -i else i)
  | d => d
def absI (i : Int) : Int := if i < 0 then -i else i

theorem law_walk (x : Cx) (L a : Addr) (cd : Value) (script : List Int) (hk : 8 ≤ x.k) (hl : x.lent = none) (hlen : script.length ≤ 63) (hcls : ClassAt x.t x.mg x.g₀) :
    EX x (envOf (dr 43).name (dr 43).scope L a cd) ([("script", .list (dI script))] : Mu) [] (dr 43).body fun fd _ _ => fd = .ret (.bool true) := by
  have hnone : ∀ b : Addr, x.lent ≠ some b := fun b => by rw [hl]; nofun
  obtain ⟨cells, hcells⟩ : ∃ c, c = (script.take 63).map absI := ⟨_, rfl⟩
  have hpos : ∀ c ∈ cells, 0 ≤ c := fun c hc => by
    rw [hcells] at hc
    obtain ⟨i, _, rfl⟩ := List.mem_map.mp hc
    unfold absI; split <;> omega
  have hcl : cells.length ≤ 63 := by rw [hcells, List.length_map, List.length_take]; omega
  have dk : ∀ n, n ≤ 2000 → DeckOk cells n := fun n hn => ⟨hpos, hcl, hn⟩
  refine EX.cons (EX1.assign (EV.listOwn ?_))
  refine AR.cons (EV.comp .none absD (EV.slice (EV.name (d := .list (dI script)) rfl ⟨dI script, rfl, bigOk (by rw [dI_length]; omega), PT.zero (PT.one (EV.int ⟨63, rfl, ?_⟩))⟩)))
  refine ⟨_, rfl, bigOk (by rw [show cut (dI script) none (some 63) = dI (script.take 63) from dI_take _ _, dI_length, List.length_take]; omega), fun x' L' μ' e hk' he => ?_, ?_⟩
  · rw [show cut (dI script) none (some 63) = dI (script.take 63) from dI_take _ _] at he
    obtain ⟨i, hi, rfl⟩ := List.mem_map.mp he
    refine AS.name ?_
    exact EV.callB (by decide) (by decide) (AR.cons (EV.name (d := .int i) (by rw [Mu.get_set]; rfl) (AR.nil (CallOk.abs ⟨rfl, rfl⟩))))
  have e0 : (cut (dI script) none (some 63)).map absD = dI cells := by
    rw [show cut (dI script) none (some 63) = dI (script.take 63) from dI_take _ _, hcells]
    unfold dI
    rw [List.map_map, List.map_map]; rfl
  rw [e0]
  refine AR.const ?_
  refine EV.int ?_
  refine AR.nil ?_
  refine ⟨two_le, fun a₀ h₀ hne₀ => ?_⟩
  have draw : ∀ {env : Env} {μ : Mu} {o₁ : Own} {n many : Nat} {pos pos' p1 p2 : Pos} {k : Nat} {P : D → Own → Prop}, n ≤ 2000 → 0 < many → many ≤ 1000 → μ.get "deck" = some (.mut a₀) →
      (∀ r : Nat, r < many → P (.int r) ((a₀, .lst (DK cells (n + 1))) :: o₁)) →
      env.globals = mainGlobals → env.scope.kind = .function → env.kindOf "_law_draw" = some .globalImplicit → env.kindOf "deck" = some .local →
      EV x env μ ((a₀, .lst (DK cells n)) :: o₁) (.Call (.Name "_law_draw" pos) [.Name "deck" p1, .Constant (.int (many : Int)) k p2] [] pos') P := by
    intro env μ o₁ n many pos pos' p1 p2 k P h1 h2 h3 h4 h5 g1 g2 g3 g4
    refine EV.callR fn_law_draw (by omega) (AR.cons (EV.name (d := .mut a₀) h4 ?_ g2 g4)) rfl g1 g2 g3
    refine AR.const ?_
    refine EV.int ?_
    refine AR.nil ⟨a₀, o₁, (cells, n, many), rfl, List.Perm.refl _, ⟨dk n h1, h2, h3⟩, ?_⟩
    rintro d c' ⟨rfl, r, hr, rfl⟩
    exact h5 r hr
  refine EX.cons (EX1.assignSwap (n1 := "has_stops") (n2 := "column") (n3 := "many") rfl ?_)
  refine EV.tuple ?_
  refine AR.cons (EV.cmp (draw (n := 0) (many := 3) (by omega) (by decide) (by decide) rfl (fun r hr => ?_) rfl rfl rfl rfl))
  refine EV.int (OpOk.eq_int ?_)
  refine AR.cons (EV.binop (EV.int (draw (n := 1) (many := 20) (by omega) (by decide) (by decide) rfl (fun r2 hr2 => OpOk.add_int ?_) rfl rfl rfl rfl)))
  refine AR.cons (EV.binop (EV.int (draw (n := 2) (many := 2) (by omega) (by decide) (by decide) rfl (fun r3 hr3 => OpOk.add_int ?_) rfl rfl rfl rfl)))
  refine AR.nil ?_
  refine ⟨lit_sizeLine (show (3 : Nat) ≤ 2 ^ 21 by decide), _, _, _, rfl, ?_⟩
  obtain ⟨st, hst⟩ : ∃ s, s = (((r : Nat) : Int) == 0) := ⟨_, rfl⟩
  obtain ⟨col, hcol⟩ : ∃ c, c = (6 : Int) + (r2 : Int) := ⟨_, rfl⟩
  have emany : (1 : Int) + (r3 : Int) = ((1 + r3 : Nat) : Int) := by omega
  rw [← hst, ← hcol, emany]
  refine EX.sub (μ' := ([("deck", .mut a₀), ("has_stops", .bool st), ("column", .int col), ("many", .int (1 + r3 : Nat))] : Mu)) ⟨rfl, rfl, rfl, rfl, trivial⟩ ?_
  refine EX.cons (EX1.assignSwap (n1 := "filling") (n2 := "texts") (n3 := "plans") rfl ?_)
  refine EV.tuple ?_
  refine AR.cons (EV.newFill hcls (by omega) (AR.cons (EV.name (d := .int col) rfl ?_)))
  refine AR.const ?_
  refine EV.str ?_
  refine AR.cons (EV.list ?_)
  refine AR.const ?_
  refine EV.int ?_
  refine AR.nil ?_
  refine ⟨lit_sizeLine (show (1 : Nat) ≤ 2 ^ 21 by decide), ?_⟩
  refine AR.const ?_
  refine EV.int ?_
  refine AR.nil ?_
  refine ⟨col, rfl, ?_⟩
  refine AR.cons (EV.listOwn (AR.nil ⟨lit_sizeLine (by decide), fun bt hbt hnebt => ?_⟩))
  refine AR.cons (EV.listOwn (AR.nil ⟨lit_sizeLine (by decide), fun bp hbp hnebp => ?_⟩))
  refine AR.nil ?_
  refine ⟨lit_sizeLine (show (3 : Nat) ≤ 2 ^ 21 by decide), _, _, _, rfl, ?_⟩
  refine EX.sub (μ' := ([("deck", .mut a₀), ("has_stops", .bool st), ("column", .int col), ("many", .int (1 + r3 : Nat)), ("filling", .fill col), ("texts", .mut bt), ("plans", .mut bp)] : Mu)) ⟨rfl, rfl, rfl, rfl, rfl, rfl, rfl, trivial⟩ ?_
  refine EX.cons (EX1.for_ (IT.range (EV.name (d := .int (1 + r3 : Nat)) rfl ⟨1 + r3, rfl, by omega, ?_⟩)))
  refine ⟨fun k μ own => ∃ (Ps : List Par) (n' : Nat), MuSub ([("deck", .mut a₀), ("has_stops", .bool st), ("column", .int col), ("many", .int (1 + r3 : Nat)), ("filling", .fill col), ("texts", .mut bt), ("plans", .mut bp)] : Mu) μ ∧
      own.Perm [(a₀, .lst (DK cells n')), (bt, .lst (dS (textsOf Ps))), (bp, .lst (Ps.map planD))] ∧ Ps.length = k ∧ n' ≤ 3 + 40 * k ∧ ∀ P ∈ Ps, ParOk st P ∧ ParB P,
    ⟨[], 3, ⟨rfl, rfl, rfl, rfl, rfl, rfl, rfl, trivial⟩, ?_, rfl, by omega, nofun⟩, ?_, ?_⟩
  · exact (List.Perm.swap (bt, Cell.lst []) (bp, Cell.lst []) [(a₀, Cell.lst (DK cells 3))]).trans ((List.Perm.cons _ (List.Perm.swap _ _ _)).trans (List.Perm.swap _ _ _ |>.trans (List.Perm.cons _ (List.Perm.refl _))))
  · rintro k μ own hk2 ⟨Ps, n', hsub, hp, hPs, hn', hok⟩
    refine AS.name (EX.sub (μ' := ([("deck", .mut a₀), ("has_stops", .bool st), ("column", .int col), ("many", .int (1 + r3 : Nat)), ("filling", .fill col), ("texts", .mut bt), ("plans", .mut bp)] : Mu)) ⟨by rw [Mu.get_set]; exact hsub.1, by rw [Mu.get_set]; exact hsub.2.1, by rw [Mu.get_set]; exact hsub.2.2.1, by rw [Mu.get_set]; exact hsub.2.2.2.1, by rw [Mu.get_set]; exact hsub.2.2.2.2.1, by rw [Mu.get_set]; exact hsub.2.2.2.2.2.1, by rw [Mu.get_set]; exact hsub.2.2.2.2.2.2.1, trivial⟩ (EX.ownPerm hp ?_))
    refine EX.cons (EX1.assignTup (EV.callR fn_law_paragraph (by omega) (AR.cons (EV.name (d := .mut a₀) rfl (AR.cons (EV.name (d := .bool st) rfl (AR.nil ⟨a₀, [(bt, .lst (dS (textsOf Ps))), (bp, .lst (Ps.map planD))], (cells, n', st), rfl, List.Perm.refl _, ⟨dk n' (by omega), by simp only; omega⟩, ?_⟩)))))))
    rintro d c' ⟨P, n2, rfl, hn2, rfl, h1, h2⟩
    simp only at hn2 h1
    refine AS.tuple ⟨rfl, AS.name ⟨rfl, AS.name ⟨rfl, AS.name ?_⟩⟩⟩ rfl
    obtain ⟨j1, j2, j3⟩ := rows_join h1 h2
    obtain ⟨w1, w2, w3⟩ := words_join h1 h2
    refine EX.sub (μ' := ([("deck", .mut a₀), ("has_stops", .bool st), ("column", .int col), ("many", .int (1 + r3 : Nat)), ("filling", .fill col), ("texts", .mut bt), ("plans", .mut bp), ("rows_own", .list (dS (P.rows.map S))), ("first", .str (S P.first)), ("rest", .str (S P.rest'))] : Mu)) ⟨rfl, rfl, rfl, rfl, rfl, rfl, rfl, rfl, rfl, rfl, trivial⟩ ?_
    refine EX.cons (EX1.assign (EV.split0 (EV.join (EV.str ⟨_, rfl, EV.stripRows h1 h2 (EV.name (d := .list (dS (P.rows.map S))) rfl ⟨rfl, ?_⟩)⟩))))
    refine ⟨_, rfl, w1, _, rfl, Nat.lt_of_le_of_lt w2 (Nat.lt_of_lt_of_le (show 1000 < 2 ^ 20 by decide) (lit_sizeLine (by decide))), ?_⟩
    rw [w3]
    refine EX.cons (EX1.expr (EV.append (EV.name (d := .mut bp) rfl ⟨bp, Ps.map planD, [(a₀, .lst (DK cells n2)), (bt, .lst (dS (textsOf Ps)))], rfl, ?_, EV.tuple (AR.cons (EV.name (d := .list (dS (P.words.map S))) rfl (AR.cons (EV.name (d := .str (S P.first)) rfl (AR.cons (EV.name (d := .str (S P.rest')) rfl (AR.nil ⟨lit_sizeLine (show (3 : Nat) ≤ 2 ^ 21 by decide), Ps.map planD, [(a₀, .lst (DK cells n2)), (bt, .lst (dS (textsOf Ps)))], ?_, bigOk (by rw [List.length_map]; omega), rfl, ?_⟩)))))))⟩)))
    · exact (List.Perm.cons _ (List.Perm.swap _ _ _)).trans (List.Perm.swap _ _ _)
    · exact (List.Perm.cons _ (List.Perm.swap _ _ _)).trans (List.Perm.swap _ _ _)
    refine EX.cons (EX1.expr (EV.append (EV.name (d := .mut bt) rfl ⟨bt, dS (textsOf Ps), [(bp, .lst (Ps.map planD ++ [planD P])), (a₀, .lst (DK cells n2))], rfl, ?_, EV.join (EV.str ⟨_, rfl, EV.name (d := .list (dS (P.rows.map S))) rfl ⟨_, rfl, j1, dS (textsOf Ps), [(bp, .lst (Ps.map planD ++ [planD P])), (a₀, .lst (DK cells n2))], ?_, bigOk (by simp only [dS, textsOf, List.length_map]; omega), rfl, ?_⟩⟩)⟩)))
    · exact (List.Perm.cons _ (List.Perm.swap _ _ _)).trans (List.Perm.swap _ _ _)
    · exact (List.Perm.cons _ (List.Perm.swap _ _ _)).trans (List.Perm.swap _ _ _)
    rw [j2]
    refine EX.nil ⟨Ps ++ [P], n2, ⟨rfl, rfl, rfl, rfl, rfl, rfl, rfl, trivial⟩, ?_, by rw [List.length_append, hPs]; rfl, by omega, fun Q hQ => ?_⟩
    · have et : dS (textsOf (Ps ++ [P])) = dS (textsOf Ps) ++ [.str (S (joinedRows P.rows))] := by simp [dS, textsOf]
      have ep : (Ps ++ [P]).map planD = Ps.map planD ++ [planD P] := by simp
      rw [et, ep]
      exact (List.Perm.cons _ (List.Perm.swap _ _ _)).trans (List.Perm.swap _ _ _)
    · rcases List.mem_append.mp hQ with hQ | hQ
      · exact hok Q hQ
      · rw [List.mem_singleton.mp hQ]; exact ⟨h1, h2⟩
  · rintro μ own ⟨Ps, n', hsub, hp, hPs, hn', hok⟩
    have r3' : r3 < 2 := hr3
    refine EX.sub hsub (EX.ownPerm hp ?_)
    have key := law_tail x L a cd st Ps cells n' col a₀ bt bp (by omega) hl (dk n' (by omega)) (fun e => by rw [e] at hPs; simp at hPs; omega) (by omega) hok (by omega)
    rw [hPs] at key
    exact key
end Fill66
end
noncomputable section
open PySem PySem.W PyProof.Rows PySem.Calls
set_option maxRecDepth 100000
set_option maxHeartbeats 1000000
namespace Fill66

theorem ns_some_of {K : Frag} {h : Heap} {N : Addr} {mg : Str → Option Value} {n : Str} {v : Value} (X : K.In h) (G : h.Ns N mg) (e : nsIn K N n = some (some v)) : mg n = some v := by
  have ⟨o, es, ep, ho, hd, _, hf⟩ := G
  cases hl : K.lookup N with
  | none => simp [nsIn, hl] at e
  | some o' =>
    obtain rfl := Option.some.inj ((X _ _ hl).symm.trans ho)
    obtain ⟨c, di, da, sl⟩ := o'
    subst hd
    rw [nsIn, hl] at e
    rw [← hf n, nsFind, findBy, ← Array.find?_toList]
    cases hq : es.toList.find? (·.key.isStr n) with
    | some en => simpa [hq] using e
    | none => simp [hq] at e
def intNames : List Str := ["BLANK_fillwords", "BLANK_filltext", "TAB_fillwords", "TAB_rectcols", "TAB_filltext", "ROW_END_fillwords", "ROW_END_filltext", "PERIOD"]
def tupNames : List Str := ["ENDS", "CLOSERS"]
def freeNames : List Str := ["len", "range", "abs", "ord", "chr", "zip", "enumerate"]
def intOk (K : Frag) (nm : Str) : Bool := match nsIn K mainGlobals nm, topInt nm with
  | some (some (.int i _)), some j => i == j
  | _, _ => false
def intsB : List Value → List Int → Bool
  | [], [] => true
  | .int i _ :: vs, j :: l => i == j && intsB vs l
  | _, _ => false
theorem intsB_of : ∀ {vs : List Value} {l : List Int}, intsB vs l = true → IntsAre vs l
  | [], [], _ => .nil
  | .int i t :: vs, j :: l, h => by
    unfold intsB at h
    rw [Bool.and_eq_true] at h
    obtain rfl := eq_of_beq h.1
    exact .cons i t (intsB_of h.2)
  | [], _ :: _, h => by cases h
  | .none :: _, [], h | .bool _ :: _, [], h | .float _ _ :: _, [], h | .str _ _ :: _, [], h | .int _ _ :: _, [], h => by cases h
  | .ref _ :: _, [], h => by cases h
  | v :: vs, [], h => by cases v <;> cases h
  | v :: vs, j :: l, h => by
    cases v with
    | int i t =>
      unfold intsB at h
      rw [Bool.and_eq_true] at h
      obtain rfl := eq_of_beq h.1
      exact .cons i t (intsB_of h.2)
    | _ => cases h
def tupOk (K : Frag) (nm : Str) : Bool := match nsIn K mainGlobals nm, topTup nm with
  | some (some (.ref a)), some l => (match K.lookup a with
      | some ⟨.type "tuple", none, .seq vs _, ⟨[]⟩⟩ => intsB vs.toList l
      | _ => false)
  | _, _ => false
def freeOk (K : Frag) (nm : Str) : Bool := match nsIn K mainGlobals nm with
  | some none => true
  | _ => false
def allRecs : List DefRec := (List.range 44).filterMap fun i => if isDef i then some (dr i) else none

theorem tf_of {p : Program} {loose : List Str} {mean : ExcName → Option Value} {mg mb : Str → Option Value} {h : Heap} {K : Frag} (T : Top p loose mean mg mb h) (X : K.In h)
    (hrec : recsOf p = allRecs) (hi : intNames.all (intOk K) = true) (ht : tupNames.all (tupOk K) = true) (hf : freeNames.all (freeOk K) = true) : TF h mg mb where
  g := T.g
  b := T.b
  nolimit := T.nolimit
  bl := T.builtins
  fn := fun i h1 => by
    have hlt : i < 44 := by
      rcases Nat.lt_or_ge i 44 with h2 | h2
      · exact h2
      · exfalso
        have hn : PySem.Challenge.pw_on0066_01.main.body[i]? = none := List.getElem?_eq_none (Nat.le_trans (show PySem.Challenge.pw_on0066_01.main.body.length ≤ 44 by decide) h2)
        unfold isDef at h1
        rw [hn] at h1
        cases h1
    have hm : dr i ∈ recsOf p := by
      rw [hrec]
      exact List.mem_filterMap.mpr ⟨i, List.mem_range.mpr hlt, by rw [if_pos h1]⟩
    obtain ⟨a, o, pm, code, doc, e1, e2, e3, e4⟩ := T.fn _ hm
    exact ⟨a, o, pm, code, doc, e1, e2, e3, e4⟩
  int := fun nm i h1 => by
    have hm : nm ∈ intNames := by
      unfold topInt at h1
      unfold intNames
      simp only [List.mem_cons, List.not_mem_nil, or_false]
      split at h1
      · rename_i h2; rcases h2 with e | e <;> simp [e]
      · split at h1
        · rename_i h2; rcases h2 with e | e | e <;> simp [e]
        · split at h1
          · rename_i h2; rcases h2 with e | e <;> simp [e]
          · split at h1
            · rename_i e; simp [e]
            · cases h1
    have := List.all_eq_true.mp hi nm hm
    unfold intOk at this
    rw [h1] at this
    split at this
    · rename_i k t j e1 e2
      cases e2
      obtain rfl := eq_of_beq this
      exact ⟨t, mg_of X T.g e1⟩
    · cases this
  tup := fun nm l h1 => by
    have hm : nm ∈ tupNames := by
      unfold topTup at h1
      unfold tupNames
      simp only [List.mem_cons, List.not_mem_nil, or_false]
      split at h1
      · rename_i e; simp [e]
      · split at h1
        · rename_i e; simp [e]
        · cases h1
    have := List.all_eq_true.mp ht nm hm
    unfold tupOk at this
    rw [h1] at this
    split at this
    · rename_i a l' e1 e2
      cases e2
      split at this
      · rename_i vs n e3
        exact ⟨a, vs.toList, n, mg_of X T.g e1, X _ _ e3, intsB_of this⟩
      · cases this
    · cases this
  free := fun nm h1 => by
    have hm : nm ∈ freeNames := by
      unfold freeName at h1
      exact List.contains_iff_mem.mp h1
    have := List.all_eq_true.mp hf nm hm
    unfold freeOk at this
    split at this
    · rename_i e; exact mg_none_of X T.g e
    · cases this

/-- the class in the written part -/
def clsOkK (K : Frag) : Bool := match nsIn K mainGlobals "Filling" with
  | some (some (.ref C)) => (match K.lookup C with
      | some ⟨_, _, .cls cd, _⟩ => (match nsIn K cd.ns "__init__" with
          | some (some (.ref f)) => makesIn K C && (findIn K (.ref C) "__init__" == some (some (.ref f))) && (typeIn K (.ref f) == some (.type "function"))
          | _ => false)
      | _ => false)
  | _ => false
def fillCls (p : Program) (loose : List Str) : Option ClsRec := (plainsOf p loose).find? fun c => c.name == "Filling"
theorem fillCls_mem {p : Program} {loose : List Str} {c : ClsRec} (h : fillCls p loose = some c) : c ∈ plainsOf p loose ∧ c.name = "Filling" :=
  ⟨List.mem_of_find?_eq_some h, eq_of_beq (List.find?_some (p := fun c : ClsRec => c.name == "Filling") h)⟩

theorem class_of {p : Program} {loose loose' : List Str} {mean : ExcName → Option Value} {mg mb : Str → Option Value} {h : Heap} {K : Frag} (T : Top p loose' mean mg mb h) (TE : TopE p loose mg h) (X : K.In h)
    (hK : clsOkK K = true) (hc : ∃ c, fillCls p loose = some c ∧ (∀ n ∈ fillNames, n ∈ c.withCmp.quiet) ∧ (⟨ir.name, ir.params, ir.body, ir.scope⟩ : MethRec) ∈ c.withCmp.meths) :
    ∃ C N oC oN, h.get? C = some oC ∧ h.get? N = some oN ∧ ∀ g : G, g N = some oN → g C = h.get? C → ClassAt h mg g := by
  obtain ⟨c, hc1, hc2, hc3⟩ := hc
  obtain ⟨hm, hn⟩ := fillCls_mem hc1
  obtain ⟨C, N, mN, h1, P⟩ := TE c hm
  rw [hn] at h1
  unfold clsOkK at hK
  split at hK
  · rename_i C' e1
    have e2 := mg_of X T.g e1
    rw [h1] at e2
    cases e2
    split at hK
    · rename_i cls dd cd sl e3
      have hC := X _ _ e3
      split at hK
      · rename_i f e4
        simp only [Bool.and_eq_true, beq_iff_eq] at hK
        obtain ⟨⟨k1, k2⟩, k3⟩ := hK
        obtain ⟨nm, q, bs, sn, sub, col, d2, a0, a1, a2, a3, a5, hC'⟩ := P.cls.obj
        rw [hC] at hC'
        have hns : cd.ns = N := by
          have := Option.some.inj hC'
          have := congrArg Obj.data this
          simp only [Data.cls.injEq] at this
          rw [this]
        rw [hns] at e4
        have e5 := ns_some_of X P.cls.ns e4
        obtain ⟨f', oI, pm, cdv, doc, m1, m2, m3, m4, m5⟩ := P.meths _ hc3
        have ein : ir.name = "__init__" := by decide
        rw [ein] at m1
        rw [e5] at m1
        cases m1
        obtain ⟨oN, es, ep, n1, n2, n3, n4⟩ := P.cls.ns
        have emN : mN = nsFind es := funext fun y => (n4 y).symm
        refine ⟨C, N, _, oN, hC, n1, fun g g1 g2 => ?_⟩
        refine ⟨C, N, es, ep, oN, f, oI, pm, doc, cdv, h1, n1, n2, n3, g1, emN ▸ P.cls, g2, ⟨K, X, k1, k2, k3⟩, m2, m3, ?_, ?_, fun n hn' => by rw [n4]; exact P.quiet n (hc2 n hn')⟩
        · have en : c.withCmp.name = "Filling" := hn
          rw [m4, en]
          have : ("Filling" : Str) ++ "." ++ ir.name = "Filling.__init__" := by decide
          rw [this]
        · have en : c.withCmp.name = "Filling" := hn
          rw [en] at m5
          have : ("Filling" : Str) ++ "." ++ ir.name = "Filling.__init__" := by decide
          rw [this] at m5
          exact m5
      · cases hK
    · cases hK
  · cases hK
end Fill66
end
noncomputable section
open PySem PySem.W PyProof.Rows PySem.Calls
set_option maxRecDepth 100000
set_option maxHeartbeats 1000000
namespace Fill66

theorem list_exact {P : Params} {h : Heap} {a : Addr} {d : WData} {vs : List Value} (w : Well P h (.ref a) d) (hd : ∃ xs, d = .list xs) (hL : h.IsList a vs.toArray) : h.get? a = some (LObj vs 0) := by
  obtain ⟨xs, rfl⟩ := hd
  cases w with
  | list h1 _ =>
    obtain ⟨o, h2, h3, n, h4⟩ := hL
    rw [h1] at h2
    cases h2
    simp only [Data.seq.injEq] at h4
    rw [h1, h4.1]
theorem repL_ints {g : G} : ∀ {vs : List Value} {l : List Int}, IntsAre vs l → RepL g (dI l) vs
  | _, _, .nil => RepL.nil
  | _, _, .cons i t h => RepL.cons (Rep.int' t) (repL_ints h)

theorem joined {w : World} {s₁ : Shared} {mg mb : Str → Option Value} {nums : List Int} {vs : List Value} {l fa : Addr} {cd : Value} {h₁ : Heap} {k : Nat} {Q : Flow → Shared → Prop} {E : Value → Shared → Prop}
    (tf : TF s₁.heap mg mb) (hcls : ∃ C N oC oN, s₁.heap.get? C = some oC ∧ s₁.heap.get? N = some oN ∧ ∀ g : G, g N = some oN → g C = s₁.heap.get? C → ClassAt s₁.heap mg g)
    (hlen : nums.length ≤ 63) (hl : s₁.heap.get? l = some (LObj vs 0)) (hI : IntsAre vs nums)
    (hns : h₁.Ns s₁.heap.objs.size (fun y => List.lookup y [(("script" : Str), Value.ref l)])) (hkeep : ∀ b o, s₁.heap.get? b = some o → h₁.get? b = some o)
    (hQ : ∀ s', (∀ b o, s₁.heap.get? b = some o → s'.heap.get? b = some o) → s'.os = s₁.os → s'.gens = s₁.gens → Q (.ret (.bool true)) s') :
    wpAny (model PySem.Challenge.pw_on0066_01 w) (callerA.deeper (envOf (dr 43).name (dr 43).scope s₁.heap.objs.size fa cd)) (execs (dr 43).body (envOf (dr 43).name (dr 43).scope s₁.heap.objs.size fa cd)) Q E
      { heap := h₁, gens := s₁.gens, drawn := s₁.drawn, toks := k, os := s₁.os } := by
  obtain ⟨C, N, oC, oN, e1, e2, hC⟩ := hcls
  let g0 : G := fun b => if b = C ∨ b = N ∨ b = l then s₁.heap.get? b else none
  have hg0 : ∀ a o, g0 a = some o → s₁.heap.get? a = some o := fun a o e => by
    have e' : (if a = C ∨ a = N ∨ a = l then s₁.heap.get? a else none) = some o := e
    split at e'
    · exact e'
    · cases e'
  have gC : g0 C = s₁.heap.get? C := if_pos (.inl rfl)
  have gN : g0 N = some oN := (if_pos (.inr (.inl rfl))).trans e2
  have gl : g0 l = some (LObj vs 0) := (if_pos (.inr (.inr rfl))).trans hl
  let env : Env := envOf (dr 43).name (dr 43).scope s₁.heap.objs.size fa cd
  let x : Cx := { prog := PySem.Challenge.pw_on0066_01, w := w, A := callerA.deeper env, k := 8, t := s₁.heap, mg := mg, mb := mb, s₀ := s₁, g₀ := g0, lent := none }
  have W0 : W x s₁.heap.objs.size g0 ([("script", .list (dI nums))] : Mu) ([] ++ []) { heap := h₁, gens := s₁.gens, drawn := s₁.drawn, toks := k, os := s₁.os } := {
    tf := tf
    room := ⟨rfl, by show callerA.depth + 1 + 8 < recursionLimit; decide, by show callerA.units + 3 + 20 * 8 + 100 < cLine; have hc := cLine_is; have hu := units_caller; simp only [hc, hu]; omega⟩
    ext := ⟨fun b o e _ => hkeep b o e, Nat.le_of_lt hns.lt, rfl, rfl, G.le.refl g0, fun b o e => hkeep _ _ (hg0 b o e), fun b hb => .inl hb⟩
    tb := Nat.le_refl _
    top := fun b o e => hkeep b o e
    ns := ⟨_, hns, fun y d e => by
      unfold Mu.get at e
      rw [List.lookup_cons] at e
      cases hy : y == ("script" : Str) with
      | true =>
        rw [hy] at e
        cases e
        refine ⟨.ref l, by rw [List.lookup_cons, hy], ?_⟩
        rw [Rep]
        exact ⟨l, vs, 0, rfl, gl, repL_ints hI⟩
      | false => rw [hy] at e; cases e⟩
    Lb := Nat.le_refl _
    gL := by
      cases hg : g0 s₁.heap.objs.size with
      | none => rfl
      | some o => exact absurd (Heap.lt_size (hg0 _ _ hg)) (Nat.lt_irrefl _)
    own := nofun
    nodup := .nil
    lentT := nofun }
  refine law_walk x s₁.heap.objs.size fa cd nums (by show 8 ≤ 8; omega) rfl hlen (hC g0 gN gC) [] g0 _ Q E W0 fun fd f μ' own' g' s' w' _ r p => ?_
  subst p
  obtain ⟨v, rfl, rv⟩ := r
  obtain rfl := rv.boolI
  exact hQ s' (fun b o e => w'.ext.keep b o e nofun) w'.ext.os w'.ext.gens
end Fill66
end
noncomputable section
open PySem PySem.W PyProof.Rows PySem.Calls
set_option maxRecDepth 100000
set_option maxHeartbeats 1000000
namespace Fill66

/-- the text without its rows of names -/
def nameRow : Stmt → Bool
  | .Assign [.Name y _] _ _ => y == "__name__"
  | _ => false
def theView : Program := { PySem.Challenge.pw_on0066_01 with main := { PySem.Challenge.pw_on0066_01.main with body := PySem.Challenge.pw_on0066_01.main.body.filter fun st => !nameRow st } }
abbrev theRow : RowW := PySem.Challenge.rw_on0066_01.row.toRowW
abbrev theXt : Shared → Bool := fun s => xlAt theView [] s && recOk theRow.records s

/-- the whole heap as a written part -/
def fragOf (h : Heap) : Frag := (List.range h.objs.size).filterMap fun a => (h.get? a).map fun o => (a, o)
theorem fragOf_in (h : Heap) : (fragOf h).In h := fun a o e => by
  obtain ⟨b, _, hb⟩ := List.mem_filterMap.mp (mem_of_look e)
  obtain ⟨o', ho, e2⟩ := Option.map_eq_some_iff.mp hb
  cases e2
  exact ho
def fragOk (K : Frag) : Bool := intNames.all (intOk K) && tupNames.all (tupOk K) && freeNames.all (freeOk K) && clsOkK K
def Says (_ : World) (h : Heap) : Prop := ∃ K : Frag, K.In h ∧ fragOk K = true
theorem says_of (w : World) (s : Shared) (e : fragOk (fragOf s.heap) = true) : Says w s.heap := ⟨_, fragOf_in _, e⟩
theorem says_keeps (w : World) (h h' : Heap) (y : Says w h) (k : ∀ b o, h.get? b = some o → h'.get? b = some o) : Says w h' := let ⟨K, X, e⟩ := y; ⟨K, X.keeps k, e⟩

/-- the top's run ends, and what f sees of its end is r -/
def Ends {α : Type} (f : Shared → α) (r : α) : Prop := ∀ w : World, (openEnds treeTable PySem.Challenge.rw_on0066_01.row.prog w 2694).map f = some r
theorem left1 : Ends (fun s => seen ((recsOf theView).map (·.name)) (ownsOf theView) [] { s with gens := #[] }) (expectedOf theView) := fun w => by
  unfold openEnds fencedOpening topFrom
  rw [PySem.W.Fast.te14082659384304107361, PySem.W.Fast.te10274390034422433532, PySem.W.Fast.te1435165496053646825]
  kernel_rfl
theorem left2 : Ends (fun s => (s.heap.bltView, s.heap.keysOk (looseW theView []) ((recsOf theView).map (·.name)) ((litsOf theView).map (·.1)) ((clssOf theView (looseW theView [])).map (·.name)) &&
    s.heap.accountedOkI (importedModules PySem.Challenge.rw_on0066_01.row.prog.main.body) && s.heap.isNs mainGlobals && s.heap.isNs builtinsNs && tablesOk theView s.heap && theXt s && (if true then s.gens.size == 0 else !leftWithCleanup s.gens)))
    (bltViewBooted, true) := fun w => by
  unfold openEnds fencedOpening topFrom
  rw [PySem.W.Fast.te14082659384304107361, PySem.W.Fast.te10274390034422433532, PySem.W.Fast.te1435165496053646825]
  kernel_rfl
theorem left3 : Ends (fun s => ((tabsOk theView s, pinSeenD theView (drecsOf theView) s, plainSeenE theView (looseW theView []) s, plainSeenD theView [] s, wideSeen theView s, clsSeenW theView [] s), fragOk (fragOf s.heap)))
    ((true, pinGoodD (drecsOf theView), plainGoodE theView (looseW theView []), plainGoodD theView [], wideGood theView, clsGoodW theView []), true) := fun w => by
  unfold openEnds fencedOpening topFrom
  rw [PySem.W.Fast.te14082659384304107361, PySem.W.Fast.te10274390034422433532, PySem.W.Fast.te1435165496053646825]
  kernel_rfl
theorem theLeft : LeftO PySem.Challenge.rw_on0066_01.row.prog theView [] theXt (fun s => fragOk (fragOf s.heap)) (fun _ => true) 2694 := fun w => by
  obtain ⟨s, hs, q1⟩ := Option.map_eq_some_iff.mp (left1 w)
  have q2 := left2 w
  have q3 := left3 w
  rw [hs, Option.map_some] at q2 q3
  obtain ⟨q2, q4⟩ := Prod.mk.inj (Option.some.inj q2)
  obtain ⟨q3, q5⟩ := Prod.mk.inj (Option.some.inj q3)
  rw [hs, Option.map_some]
  unfold openSeen openGood
  rw [q1, q2, q4, q3]
  exact congrArg (fun b => some (_, b)) q5
end Fill66
end
open PySem PySem.W PyProof.Rows
set_option maxRecDepth 100000
namespace Fill66
def c0 : ClsRec := (fillCls PySem.Challenge.pw_on0066_01 []).getD ⟨"", none, [], [], 0, []⟩
theorem mem_of_contains {l : List Str} {m : List Str} (h : l.all (fun n => m.contains n) = true) : ∀ n ∈ l, n ∈ m := fun n hn => List.contains_iff_mem.mp (List.all_eq_true.mp h n hn)
theorem theRecs : recsOf theView = allRecs := by kernel_rfl
theorem theClass : ∃ c, fillCls theView (looseW theView []) = some c ∧ (∀ n ∈ fillNames, n ∈ c.withCmp.quiet) ∧ (⟨ir.name, ir.params, ir.body, ir.scope⟩ : MethRec) ∈ c.withCmp.meths :=
  ⟨c0, by kernel_rfl, mem_of_contains (by kernel_rfl), List.mem_of_getElem? (i := 0) (by kernel_rfl)⟩
theorem theSaid : PySem.Challenge.rw_on0066_01.wellSaid = true := by
  unfold OpenLaw.wellSaid OpenRow.wellSaid OpenRow.partSaid looksOpen
  repeat' (with_reducible refine Bool.and_eq_true_iff.mpr ⟨?_, ?_⟩)
  all_goals decide +kernel
end Fill66
set_option maxRecDepth 100000 in
set_option maxHeartbeats 8000000 in
theorem PySem.Challenge.cw_on0066_01_holds : PySem.Challenge.rw_on0066_01.Holds := by
  w_on
  refine holds_law Fill66.theSaid fun said => ?_
  refine holds_open (q := Fill66.theView) (loose := []) (Xt := Fill66.theXt) (XP := XL Fill66.theView []) (Yf := fun s => Fill66.fragOk (Fill66.fragOf s.heap)) (Ya := fun _ => true) (YP := Fill66.Says) (d := Fill66.dr 43) (kwd := []) (N := 2694) Fill66.theLeft Fill66.says_of Fill66.says_keeps (fun s e => xl_of s (Bool.and_eq_true_iff.mp e).1) XL.keeps (by kernel_rfl) (by kernel_rfl) (by kernel_rfl) (fun s e => recFacts_of (Bool.and_eq_true_iff.mp e).2) (by rfl) (by assumption) (by decide +kernel) ⟨rfl, rfl, rfl, rfl, rfl, by decide +kernel⟩ ?hw ?hc
  case hw => w_witness2
  intro w s₀ s₁ mg mb G Y fa o pm cd doc dV kV ho hd hcd hD hmg hg args vals as hpre hlay hrd hwl hlo
  refine Ground.open G ?_
  intro T B D TE TW
  have TA := at_of_top T
  obtain ⟨_, _, he, B0⟩ := based_of_top T rfl hmg ho hd
  have he' : cd = _ := he
  subst he'
  clear he hmg D
  wrow_args hpre hlay hrd hwl hlo
  refine enter_call ?_
  w_top on
  refine codeAny_mono ?_ (fun _ _ g => GoodW.toG g)
  w_call any ho hd hcd hD T F
  rename_i nums hs hl0 hL1 hr1 hl2 b1 b2 l vs b3 hL ra w1 r0 hI hr hc1 hc2 h₁ N0
  obtain ⟨K, KX, hK⟩ := Y
  unfold Fill66.fragOk at hK
  simp only [Bool.and_eq_true] at hK
  have t1 := Fill66.tf_of T KX Fill66.theRecs hK.1.1.1 hK.1.1.2 hK.1.2
  have t2 := Fill66.class_of T TE KX hK.2 Fill66.theClass
  refine Fill66.joined (nums := nums) (vs := vs) (l := l) t1 t2 (by omega) (Fill66.list_exact w1 ⟨_, rfl⟩ hL) hI F.ns F.keep ?_
  intro s' hk hos hgens
  exact ⟨.inl ⟨.bool true, .bool true, [], rfl, fun _ => rfl, by constructor, by kernel_rfl, fun _ => ⟨List.nodup_nil, nofun⟩⟩, hk, hos, hgens.trans hg⟩
