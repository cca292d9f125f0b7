import PyProof.Rows.All
import PyProof.Raises
import PyProof.Calls
import PyProof.RulesTry
import PyProof.AssignAttr
import PyProof.FactsAll.list_3
import PyProof.FactsAll.list_4
import PyProof.FactsAll.dict_3
import PyProof.FactsAll.dict_4
import PyProof.AutoIntOps
import PyProof.AutoListH
import PyProof.AutoSeq1
import PyProof.SliceSyntax
import PyProof.SliceList
import PyProof.ForAny
import PyProof.CallType
import PyProof.Cells
import PyProof.CompMap
import PyProof.PlainList
import PyProof.ConsumeWalk
import PyProof.CompFree
import PyProof.Conv_int_bool
import PyProof.DefCall
import PyProof.MeetsSeq
import PyProof.MeetsIn
import PyProof.DictKinds
import PyProof.DictRoads
import PyProof.DictStraight
import PyProof.DictUpdate
import PyProof.DictTable
import PyProof.EnumFor
import PyProof.EnumMake
import PyProof.ExcQuiet
import PyProof.ExcArgsOwn
import PyProof.ExcBaseAll.ValueError
import PyProof.ExcClass3
import PyProof.ExcInit
import PyProof.RaisesMany
import PyProof.StationsW
import PyProof.RangeIter
import PyProof.WalksMore
import PyProof.RangeFor
import PyProof.ForRange
import PyProof.IsiHeapPairs
import PyProof.IsiNone
import PyProof.IsiPairs
import PyProof.ListCopy
import PyProof.ListMulRoad
import PyProof.ListRange
import PyProof.ListTruth
import PyProof.WalkInts
import PyProof.RulesAs
import PyProof.Rows.News
import PyProof.Rows.TupAssign
import PyProof.Rows.TupSub
import PyProof.Rows.Lst
import PyProof.Rows.IntRules
import PyProof.Rows.AttrNodeAny
import PyProof.Rows.Chain
import PyProof.Rows.Nodes
import PyProof.Rows.RuleU_int
import PyProof.Rows.RuleB_mul
import PyProof.Rows.RuleB_floordiv
import PyProof.Rows.RuleB_mod
import PyProof.Rows.SeqSlice
import PyProof.Rows.Method
import PyProof.Rows.StrTemp
import PyProof.Rows.ListMul
import PyProof.Rows.RuleC_int
import PyProof.Rows.RuleIs
import PyProof.SliceMore
import PyProof.Rows.StrRules
import PyProof.Rows.EqDataRows
import PyProof.Rows.InDataRows
import PyProof.Rows.SeqMore
import PyProof.Rows.MinMaxN
import PyProof.TupleOfSeq
import OpenK.KMake
import OpenK.KCls
import OpenK.KWalk
import OpenK.KCell
import KE.KItem
import KE.KListMore
import KE.KIsAll
import KE.KRevIter
import KE.KTryMore
import Wide.All
import OpenK.AllK
import Wide.FinOn
import Lean
import PySem.Challenge.RW_uf060008_01

set_option Elab.async false
set_option linter.unusedVariables false
namespace Mine
open PySem

inductive V where
  | none
  | bool (b : Bool)
  | int (i : Int)
  | str (s : Str)
  | tup (l : List V)
  | lst (l : List V)
  | ref (a : Addr)
  | con (v : Value)
  deriving Inhabited

inductive O where
  | list (l : List V)
  | dictI (m : Int → Option V) (n : Nat)
  | dictS (m : Str → Option V) (n : Nat)
  | inst (c d : Addr)
  | ns (m : Str → Option V) (n : Nat)
  | exc (c : Addr) (d T : Option Addr)
  | tb (fl : Option Addr)

abbrev Hp := Addr → Option O
abbrev Rho := Str → Option V
def Hp.set (H : Hp) (a : Addr) (o : O) : Hp := fun b => if b = a then some o else H b
def Hp.del (H : Hp) (a : Addr) : Hp := fun b => if b = a then none else H b
def Rho.set (ρ : Rho) (x : Str) (v : V) : Rho := fun y => if y = x then some v else ρ y

mutual
inductive VRel (h : Heap) (H : Hp) : V → Value → Prop
  | none : VRel h H .none .none
  | bool (b : Bool) : VRel h H (.bool b) (.bool b)
  | int (i : Int) (t : Tok) : VRel h H (.int i) (.int i t)
  | str (s : Str) (t : Tok) : VRel h H (.str s) (.str s t)
  | tup {a : Addr} {l : List V} {xs : Array Value} (ha : h.IsTuple a xs) (ho : H a = none) (hl : VRelL h H l xs.toList) : VRel h H (.tup l) (.ref a)
  | lst {a : Addr} {l : List V} {xs : Array Value} (ha : h.IsList a xs) (ho : H a = none) (hl : VRelL h H l xs.toList) : VRel h H (.lst l) (.ref a)
  | ref (a : Addr) : VRel h H (.ref a) (.ref a)
  | con (v : Value) : VRel h H (.con v) v
inductive VRelL (h : Heap) (H : Hp) : List V → List Value → Prop
  | nil : VRelL h H [] []
  | cons {v : V} {x : Value} {l : List V} {xs : List Value} (hv : VRel h H v x) (hl : VRelL h H l xs) : VRelL h H (v :: l) (x :: xs)
end

/-- the object is there, but for its slots -/
def UpS (o : Obj) (h' : Heap) (a : Addr) : Prop := ∃ sl, h'.get? a = some { o with slots := sl } ∧ ((∀ es n, o.data ≠ .dict es n) → sl = o.slots)
theorem UpS.of {o : Obj} {h' : Heap} {a : Addr} (e : h'.get? a = some o) : UpS o h' a := ⟨o.slots, e, fun _ => rfl⟩
theorem UpS.trans {o : Obj} {h' h'' : Heap} {a : Addr} (x : UpS o h' a) (y : ∀ o', h'.get? a = some o' → UpS o' h'' a) : UpS o h'' a :=
  let ⟨sl, e, d⟩ := x; let ⟨sl', e', d'⟩ := y _ e; ⟨sl', e', fun n => (d' n).trans (d n)⟩
theorem UpS.exact {o : Obj} {h' : Heap} {a : Addr} (x : UpS o h' a) (n : ∀ es n, o.data ≠ .dict es n) : h'.get? a = some o := by
  obtain ⟨sl, e, d⟩ := x
  rw [d n] at e; exact e
/-- what may change between two states: owned objects; new objects may come -/
structure Ext (H : Hp) (h : Heap) (H' : Hp) (h' : Heap) : Prop where
  keep : ∀ a o, h.get? a = some o → H a = none → UpS o h' a
  grow : ∀ a o, h.get? a = some o → H a = none → H' a = none
  live : ∀ a o, h.get? a = some o → ∃ o', h'.get? a = some o'

theorem Ext.refl (H : Hp) (h : Heap) : Ext H h H h := ⟨fun _ _ e _ => .of e, fun _ _ _ e => e, fun _ o e => ⟨o, e⟩⟩
theorem Ext.trans {H h H' h' H'' h''} (x : Ext H h H' h') (y : Ext H' h' H'' h'') : Ext H h H'' h'' :=
  ⟨fun a o e n => (x.keep a o e n).trans fun o' e' => y.keep a o' e' (x.grow a o e n), fun a o e n => let ⟨_, e', _⟩ := x.keep a o e n; y.grow a _ e' (x.grow a o e n), fun a o e => let ⟨o', e'⟩ := x.live a o e; y.live a o' e'⟩

/-- lists and tuples that nobody owns stay -/
def ExtV (H : Hp) (h : Heap) (H' : Hp) (h' : Heap) : Prop :=
  ∀ a o xs n, h.get? a = some o → o.data = .seq xs n → H a = none → UpS o h' a ∧ H' a = none
theorem Ext.v {H h H' h'} (E : Ext H h H' h') : ExtV H h H' h' := fun a o _ _ e _ n => ⟨E.keep a o e n, E.grow a o e n⟩
/-- one object that is neither list nor tuple is changed -/
theorem ExtV.but {H : Hp} {h h' : Heap} {b : Addr} {ob : Obj} (hb : h.get? b = some ob) (nb : ∀ xs n, ob.data ≠ .seq xs n) (e : ∀ a o, a ≠ b → h.get? a = some o → h'.get? a = some o) : ExtV H h H h' :=
  fun a o xs n ea d m => ⟨.of (e a o (fun q => by subst q; rw [hb] at ea; cases ea; exact nb _ _ d) ea), m⟩

mutual
theorem VRel.extV {H h H' h'} (E : ExtV H h H' h') : ∀ {v x}, VRel h H v x → VRel h' H' v x
  | _, _, .none => .none
  | _, _, .bool b => .bool b
  | _, _, .int i t => .int i t
  | _, _, .str i t => .str i t
  | _, _, .tup ha ho hl => .tup (let ⟨o, e, c, n, r⟩ := ha; let ⟨_, e', _⟩ := (E _ _ _ _ e r ho).1; ⟨_, e', c, n, r⟩) (let ⟨o, e, c, n, r⟩ := ha; (E _ _ _ _ e r ho).2) (VRelL.extV E hl)
  | _, _, .lst ha ho hl => .lst (let ⟨o, e, c, n, r⟩ := ha; let ⟨_, e', _⟩ := (E _ _ _ _ e r ho).1; ⟨_, e', c, n, r⟩) (let ⟨o, e, c, n, r⟩ := ha; (E _ _ _ _ e r ho).2) (VRelL.extV E hl)
  | _, _, .ref a => .ref a
  | _, _, .con v => .con v
theorem VRelL.extV {H h H' h'} (E : ExtV H h H' h') : ∀ {v x}, VRelL h H v x → VRelL h' H' v x
  | _, _, .nil => .nil
  | _, _, .cons hv hl => .cons (hv.extV E) (VRelL.extV E hl)
end
theorem VRel.ext {H h H' h'} (E : Ext H h H' h') {v x} (r : VRel h H v x) : VRel h' H' v x := r.extV E.v
theorem VRelL.ext {H h H' h'} (E : Ext H h H' h') {v x} (r : VRelL h H v x) : VRelL h' H' v x := r.extV E.v
theorem VRelL.length {h H} : ∀ {l xs}, VRelL h H l xs → xs.length = l.length
  | _, _, .nil => rfl
  | _, _, .cons _ hl => by simp [hl.length]
theorem VRelL.append {h H} : ∀ {l xs l' xs'}, VRelL h H l xs → VRelL h H l' xs' → VRelL h H (l ++ l') (xs ++ xs')
  | _, _, _, _, .nil, y => y
  | _, _, _, _, .cons hv hl, y => .cons hv (hl.append y)
theorem VRelL.get {h H} : ∀ {l xs} {i : Nat} {v : V}, VRelL h H l xs → l[i]? = some v → ∃ x, xs[i]? = some x ∧ VRel h H v x
  | _, _, i, v, .nil, e => by simp at e
  | _, _, 0, v, .cons hv hl, e => by simp at e; subst e; exact ⟨_, rfl, hv⟩
  | _, _, i + 1, v, .cons hv hl, e => by simp at e; simpa using hl.get e
theorem VRelL.set {h H} : ∀ {l xs} {i : Nat} {v : V} {x : Value}, VRelL h H l xs → VRel h H v x → VRelL h H (l.set i v) (xs.set i x)
  | _, _, i, v, x, .nil, _ => .nil
  | _, _, 0, v, x, .cons hv hl, r => .cons r hl
  | _, _, i + 1, v, x, .cons hv hl, r => .cons hv (hl.set r)
theorem VRelL.take {h H} : ∀ {l xs} (i : Nat), VRelL h H l xs → VRelL h H (l.take i) (xs.take i)
  | _, _, 0, _ => by simp; exact .nil
  | _, _, i + 1, .nil => by simp; exact .nil
  | _, _, i + 1, .cons hv hl => .cons hv (hl.take i)
theorem VRelL.drop {h H} : ∀ {l xs} (i : Nat), VRelL h H l xs → VRelL h H (l.drop i) (xs.drop i)
  | _, _, 0, x => x
  | _, _, i + 1, .nil => by simp; exact .nil
  | _, _, i + 1, .cons hv hl => hl.drop i
structure Cx where
  prog : Program
  w : World
  base : Heap
  os : OsState
  hd : Bool
  low : ∃ o, base.get? cStatics = some o
  frs : Option (List Env)

/-- the frames below are there -/
def FrOK (C : Cx) (H : Hp) (h : Heap) : Prop := ∀ l, C.frs = some l → ∀ env ∈ l, env.scope.kind ≠ .module ∧ ∃ L o, env.frame = some L ∧ C.base.get? L = none ∧ H L = none ∧ h.get? L = some o ∧ ∃ es ep, o.data = .dict es ep

abbrev Cx.M (C : Cx) : Model := model C.prog C.w

def OptRel (h : Heap) (H : Hp) : Option V → Option Value → Prop
  | some v, some x => VRel h H v x
  | none, none => True
  | _, _ => False
theorem OptRel.extV {H h H' h'} (E : ExtV H h H' h') : ∀ {v x}, OptRel h H v x → OptRel h' H' v x
  | some _, some _, r => VRel.extV E r
  | none, none, _ => trivial

def ORel (C : Cx) (h : Heap) (H : Hp) (a : Addr) : O → Prop
  | .list l => ∃ xs, h.PlainList a xs ∧ VRelL h H l xs.toList
  | .dictI m n => ∃ kvs, h.DictOf (intKind C.prog C.w) a kvs ∧ kvs.length ≤ n ∧ ∀ k, OptRel h H (m k) (valueAt kvs k)
  | .dictS m n => ∃ kvs, h.DictOf (strKind C.prog C.w) a kvs ∧ kvs.length ≤ n ∧ ∀ k, OptRel h H (m k) (valueAt kvs k)
  | .inst c d => h.get? a = some { cls := .ref c, dict := some d, data := .plain }
  | .ns m n => ∃ o es ep, h.get? a = some o ∧ o.data = .dict es ep ∧ StrKeys es ∧ es.size ≤ n ∧ ∀ k, OptRel h H (m k) (nsFind es k)
  | .exc c d T => ∃ o vs, h.get? a = some o ∧ o.cls = .ref c ∧ o.dict = d ∧ o.data = .fields vs ∧ 5 < vs.size ∧ vs[1]? = some (T.elim .none .ref)
  | .tb fl => ∃ o vs, h.get? a = some o ∧ o.data = .fields vs ∧ vs[3]? = some (fl.elim .none fun L => rawInt L)

structure Sim (C : Cx) (H : Hp) (s : Shared) : Prop where
  keep : ∀ b o, C.base.get? b = some o → s.heap.get? b = some o
  gens : s.gens = #[]
  os : s.os = C.os
  objs : ∀ a o, H a = some o → ORel C s.heap H a o
  new : ∀ a, H a ≠ none → C.base.get? a = none ∧ a ≠ sysModules
  frs : FrOK C H s.heap

theorem ORel.lt {C h H a o} (r : ORel C h H a o) : ∃ ob, h.get? a = some ob := by
  cases o with
  | list l => obtain ⟨xs, ⟨n, e⟩, _⟩ := r; exact ⟨_, e⟩
  | dictI m n => obtain ⟨f, ⟨o, es, ep, e, _⟩, _⟩ := r; exact ⟨o, e⟩
  | dictS m n => obtain ⟨f, ⟨o, es, ep, e, _⟩, _⟩ := r; exact ⟨o, e⟩
  | inst c d => exact ⟨_, r⟩
  | ns m n => obtain ⟨o, es, ep, e, _⟩ := r; exact ⟨o, e⟩
  | exc c d T => obtain ⟨o, vs, e, _⟩ := r; exact ⟨o, e⟩
  | tb fl => obtain ⟨o, vs, e, _⟩ := r; exact ⟨o, e⟩

/-- an owned object that nobody touched -/
theorem ORel.same {C h H h' H' a o} (r : ORel C h H a o) (E : ExtV H h H' h') (e : h'.get? a = h.get? a) : ORel C h' H' a o := by
  cases o with
  | list l => obtain ⟨xs, ⟨o, e1⟩, r2⟩ := r; exact ⟨xs, ⟨o, e.trans e1⟩, r2.extV E⟩
  | dictI m n =>
    obtain ⟨f, ⟨o, es, ep, e1, r1⟩, d, r2⟩ := r
    exact ⟨f, ⟨o, es, ep, e.trans e1, r1⟩, d, fun k => (r2 k).extV E⟩
  | dictS m n =>
    obtain ⟨f, ⟨o, es, ep, e1, r1⟩, d, r2⟩ := r
    exact ⟨f, ⟨o, es, ep, e.trans e1, r1⟩, d, fun k => (r2 k).extV E⟩
  | inst c d => exact e.trans r
  | ns m n =>
    obtain ⟨o, es, ep, e1, r1, r3, d, r2⟩ := r
    exact ⟨o, es, ep, e.trans e1, r1, r3, d, fun k => (r2 k).extV E⟩
  | exc c d T => obtain ⟨o, vs, e1, r1⟩ := r; exact ⟨o, vs, e.trans e1, r1⟩
  | tb fl => obtain ⟨o, vs, e1, r1⟩ := r; exact ⟨o, vs, e.trans e1, r1⟩
theorem FrOK.same {C : Cx} {H H' : Hp} {h h' : Heap} (F : FrOK C H h) (k : ∀ L o es ep, h.get? L = some o → H L = none → o.data = .dict es ep → H' L = none ∧ ∃ o' es' ep', h'.get? L = some o' ∧ o'.data = .dict es' ep') : FrOK C H' h' := fun l e env m => by
  obtain ⟨q, L, o, e1, e2, e3, e4, es, ep, e5⟩ := F l e env m
  obtain ⟨n, o', es', ep', e6, e7⟩ := k L o es ep e4 e3 e5
  exact ⟨q, L, o', e1, e2, n, e6, es', ep', e7⟩
theorem FrOK.keep {C : Cx} {H H' : Hp} {h h' : Heap} (F : FrOK C H h) (k : ∀ L o es ep, h.get? L = some o → H L = none → o.data = .dict es ep → H' L = none ∧ h'.get? L = some o) : FrOK C H' h' := F.same fun L o es ep e n d => ⟨(k L o es ep e n d).1, o, es, ep, (k L o es ep e n d).2, d⟩

/-- frame of a call: locals and cells -/
structure Frm (C : Cx) (H : Hp) (env : Env) (m cm : Str → Option Value) (h : Heap) : Prop where
  ns : h.Ns env.locals m
  cell : ∀ n c, env.cells.lookup n = some c → h.IsCell c (cm n)
  own : H env.locals = none
  ownc : ∀ n c, env.cells.lookup n = some c → H c = none
  above : C.base.get? env.locals = none
  abovec : ∀ n c, env.cells.lookup n = some c → C.base.get? c = none
  apart : ∀ n n' c, env.cells.lookup n = some c → env.cells.lookup n' = some c → n = n'

def LocRel (h : Heap) (H : Hp) (env : Env) (m cm : Str → Option Value) (x : Str) (v : V) : Prop :=
  match env.kindOf x with
  | some .local => ∃ u, m x = some u ∧ VRel h H v u
  | some .cell | some .free => ∃ u c, env.cells.lookup x = some c ∧ cm x = some u ∧ VRel h H v u
  | _ => True

structure SimL (C : Cx) (env : Env) (ρ : Rho) (H : Hp) (s : Shared) : Prop where
  sim : Sim C H s
  kind : env.scope.kind = .function
  globals : env.globals = mainGlobals
  builtins : env.builtins = builtinsNs
  frm : ∃ m cm, Frm C H env m cm s.heap ∧ ∀ x v, ρ x = some v → LocRel s.heap H env m cm x v

theorem LocRel.extV {H h H' h' env m cm x v} (E : ExtV H h H' h') (r : LocRel h H env m cm x v) : LocRel h' H' env m cm x v := by
  unfold LocRel at *
  split at r
  · obtain ⟨u, a, b⟩ := r; exact ⟨u, a, b.extV E⟩
  · obtain ⟨u, c, a, b, d⟩ := r; exact ⟨u, c, a, b, d.extV E⟩
  · obtain ⟨u, c, a, b, d⟩ := r; exact ⟨u, c, a, b, d.extV E⟩
  · trivial

theorem Frm.ext {C H h H' h' env m cm} (E : Ext H h H' h') (F : Frm C H env m cm h) : Frm C H' env m cm h' := by
  obtain ⟨oL, es, ep, eL, rL⟩ := F.ns
  obtain ⟨sl, eL', _⟩ := E.keep _ _ eL F.own
  refine ⟨⟨_, es, ep, eL', rL⟩, fun n c e => ?_, E.grow _ _ eL F.own, fun n c e => ?_, F.above, F.abovec, F.apart⟩
  · obtain ⟨o, e1, r1⟩ := F.cell n c e
    obtain ⟨sl, e2, _⟩ := E.keep _ _ e1 (F.ownc n c e)
    exact ⟨_, e2, r1⟩
  · obtain ⟨o, e1, r1⟩ := F.cell n c e; exact E.grow _ _ e1 (F.ownc n c e)

theorem SimL.ext {C env ρ H s H' s'} (S : SimL C env ρ H s) (S' : Sim C H' s') (E : Ext H s.heap H' s'.heap) : SimL C env ρ H' s' := by
  obtain ⟨m, cm, F, r⟩ := S.frm
  exact ⟨S', S.kind, S.globals, S.builtins, m, cm, F.ext E, fun x v e => (r x v e).extV E.v⟩

/-- what a statement may change besides: its own frame -/
structure ExtF (env : Env) (H : Hp) (h : Heap) (H' : Hp) (h' : Heap) : Prop where
  keep : ∀ a o, h.get? a = some o → H a = none → a ≠ env.locals → (∀ n, env.cells.lookup n ≠ some a) → UpS o h' a
  grow : ∀ a o, h.get? a = some o → H a = none → H' a = none
  live : ∀ a o, h.get? a = some o → ∃ o', h'.get? a = some o'

theorem Ext.toF {env H h H' h'} (x : Ext H h H' h') : ExtF env H h H' h' := ⟨fun a o e n _ _ => x.keep a o e n, x.grow, x.live⟩
theorem ExtF.refl (env : Env) (H : Hp) (h : Heap) : ExtF env H h H h := (Ext.refl H h).toF
theorem ExtF.trans {env H h H' h' H'' h''} (x : ExtF env H h H' h') (y : ExtF env H' h' H'' h'') : ExtF env H h H'' h'' := by
  refine ⟨fun a o e n n1 n2 => (x.keep a o e n n1 n2).trans fun o' e' => y.keep a o' e' (x.grow a o e n) n1 n2, fun a o e n => ?_, fun a o e => ?_⟩
  · obtain ⟨o', e'⟩ := x.live a o e; exact y.grow a o' e' (x.grow a o e n)
  · obtain ⟨o', e'⟩ := x.live a o e; exact y.live a o' e'

def Post {α β : Type} (C : Cx) (H : Hp) (h : Heap) (rel : Heap → Hp → β → α → Prop) (Q : β → Hp → Prop) : α → Shared → Prop :=
  fun x s' => ∃ v H', Q v H' ∧ Sim C H' s' ∧ rel s'.heap H' v x ∧ Ext H h H' s'.heap

theorem Post.after {α β : Type} {C : Cx} {H H₁ : Hp} {h h₁ : Heap} {rel : Heap → Hp → β → α → Prop} {Q : β → Hp → Prop} (E : Ext H h H₁ h₁) {x : α} {s' : Shared} (p : Post C H₁ h₁ rel Q x s') : Post C H h rel Q x s' :=
  let ⟨v, H', q, S, r, E'⟩ := p; ⟨v, H', q, S, r, E.trans E'⟩

/-- the room that a call at level k has -/
structure Lv (C : Cx) (k : Nat) (A : Around) : Prop where
  handled : C.hd = true → A.handled = none
  depth : A.depth + 2 * k + 100 < recursionLimit
  units : A.units + 40 * k + 100 < cLine
  frames : ∀ l, C.frs = some l → A.frames = some l

def BRel (_ : Heap) (_ : Hp) (b x : Bool) : Prop := b = x

def EvalW (C : Cx) (k : Nat) (env : Env) (e : Expr) (Q R : V → Hp → Prop) (ρ : Rho) (H : Hp) : Prop :=
  ∀ A, Lv C k A → ∀ s, SimL C env ρ H s → wpAny C.M A (eval e env) (Post C H s.heap VRel Q) (Post C H s.heap VRel R) s
def TestW (C : Cx) (k : Nat) (env : Env) (e : Expr) (Q : Bool → Hp → Prop) (R : V → Hp → Prop) (ρ : Rho) (H : Hp) : Prop :=
  ∀ A, Lv C k A → ∀ s, SimL C env ρ H s → wpAny C.M A (isTrue e env (eval e env)) (Post C H s.heap BRel Q) (Post C H s.heap VRel R) s
def BinW (C : Cx) (k : Nat) (op : Operator) (v w : V) (Q R : V → Hp → Prop) (H : Hp) : Prop :=
  ∀ A, Lv C k A → ∀ s x y, Sim C H s → VRel s.heap H v x → VRel s.heap H w y → wpAny C.M A (binaryOp op x y) (Post C H s.heap VRel Q) (Post C H s.heap VRel R) s
def CmpW (C : Cx) (k : Nat) (op : CmpOp) (v w : V) (Q R : V → Hp → Prop) (H : Hp) : Prop :=
  ∀ A, Lv C k A → ∀ s x y, Sim C H s → VRel s.heap H v x → VRel s.heap H w y → wpAny C.M A (compareOp op x y) (Post C H s.heap VRel Q) (Post C H s.heap VRel R) s
def TruthW (C : Cx) (k : Nat) (v : V) (Q : Bool → Hp → Prop) (R : V → Hp → Prop) (H : Hp) : Prop :=
  ∀ A, Lv C k A → ∀ s x, Sim C H s → VRel s.heap H v x → wpAny C.M A (truthy x) (Post C H s.heap BRel Q) (Post C H s.heap VRel R) s
def CallW (C : Cx) (k : Nat) (f : Value) (args : List V) (Q R : V → Hp → Prop) (H : Hp) : Prop :=
  ∀ A, Lv C k A → ∀ s xs, Sim C H s → VRelL s.heap H args xs → wpAny C.M A (call f xs) (Post C H s.heap VRel Q) (Post C H s.heap VRel R) s

end Mine

set_option Elab.async false
set_option linter.unusedVariables false
namespace Mine
open PySem PyProof.Rows

theorem Sim.toks {C H s} (S : Sim C H s) (t : Nat) : Sim C H { s with toks := t } := ⟨S.keep, S.gens, S.os, S.objs, S.new, S.frs⟩
theorem SimL.toks {C env ρ H s} (S : SimL C env ρ H s) (t : Nat) : SimL C env ρ H { s with toks := t } := ⟨S.sim.toks t, S.kind, S.globals, S.builtins, S.frm⟩

theorem Post.here {α β : Type} {C : Cx} {H : Hp} {h : Heap} {rel : Heap → Hp → β → α → Prop} {Q : β → Hp → Prop} {x : α} {v : β} {s' : Shared}
    (q : Q v H) (S : Sim C H s') (r : rel s'.heap H v x) (e : s'.heap = h) : Post C H h rel Q x s' := ⟨v, H, q, S, r, e ▸ Ext.refl _ _⟩

variable {C : Cx} {k : Nat} {env : Env} {ρ : Rho} {H : Hp} {Q R : V → Hp → Prop} {QB : Bool → Hp → Prop}

theorem EvalW.none {c p} (h : Q .none H) : EvalW C k env (.Constant .none c p) Q R ρ H :=
  fun _ _ _ S => wpAny_pure (Post.here h S.sim .none rfl)
theorem EvalW.bool {b c p} (h : Q (.bool b) H) : EvalW C k env (.Constant (.bool b) c p) Q R ρ H :=
  fun _ _ _ S => wpAny_pure (Post.here h S.sim (.bool b) rfl)
theorem EvalW.int {i c p} (h : Q (.int i) H) : EvalW C k env (.Constant (.int i) c p) Q R ρ H :=
  fun _ _ _ S => wpAny_Constant_int (Post.here h (S.toks _).sim (.int i _) rfl)
theorem EvalW.str {x c p} (h : Q (.str x) H) : EvalW C k env (.Constant (.str x) c p) Q R ρ H :=
  fun _ _ _ S => wpAny_mkText (Post.here h (S.toks _).sim (.str x _) rfl)

theorem EvalW.local_ {x p v} (hv : ρ x = some v) (h : Q v H) (hk : env.kindOf x = some .local) (hd : (x == ("__debug__" : Str)) = false := by decide) :
    EvalW C k env (.Name x p) Q R ρ H := fun _ _ s S => by
  obtain ⟨m, cm, F, r⟩ := S.frm
  have := r x v hv
  unfold LocRel at this
  rw [hk] at this
  obtain ⟨u, hm, ru⟩ := this
  exact wpAny_Name (wpAny_loadName_local S.kind hk F.ns hm (Post.here h S.sim ru rfl)) hd
theorem EvalW.cell {x p v} (hv : ρ x = some v) (h : Q v H) (hk : env.kindOf x = some .cell) (hd : (x == ("__debug__" : Str)) = false := by decide) :
    EvalW C k env (.Name x p) Q R ρ H := fun _ _ s S => by
  obtain ⟨m, cm, F, r⟩ := S.frm
  have := r x v hv
  unfold LocRel at this
  rw [hk] at this
  obtain ⟨u, c, hc, hm, ru⟩ := this
  exact wpAny_Name (wpAny_loadName_cell S.kind hk hc (hm ▸ F.cell x c hc) (Post.here h S.sim ru rfl)) hd
/-- a global name of the text, or a builtin -/
def GlobalIs (C : Cx) (x : Str) (v : Value) : Prop :=
  (∃ mg, C.base.Ns mainGlobals mg ∧ mg x = some v) ∨ (∃ mg mb, C.base.Ns mainGlobals mg ∧ mg x = none ∧ C.base.Ns builtinsNs mb ∧ mb x = some v)
def GlobalV (C : Cx) (x : Str) (v : V) : Prop := ∃ u, GlobalIs C x u ∧ ∀ h H, VRel h H v u
theorem EvalW.global {x p v} (g : GlobalV C x v) (h : Q v H) (hk : env.kindOf x = some .globalImplicit) (hd : (x == ("__debug__" : Str)) = false := by decide) :
    EvalW C k env (.Name x p) Q R ρ H := fun _ _ s S => by
  obtain ⟨u, g, r⟩ := g
  refine Calls.Name_function_global S.kind hk ?_ hd
  rcases g with ⟨mg, g1, g2⟩ | ⟨mg, mb, g1, g2, g3, g4⟩
  · exact Calls.loadGlobal_global (by rw [S.globals]; exact g1.keeps S.sim.keep) g2 (Post.here h S.sim (r _ _) rfl)
  · exact Calls.loadGlobal_builtin (by rw [S.globals]; exact g1.keeps S.sim.keep) g2 (by rw [S.builtins]; exact g3.keeps S.sim.keep) g4 (Post.here h S.sim (r _ _) rfl)

/-- chaining: behind a first part -/
theorem wp_go {α β : Type} {C : Cx} {A : Around} {H : Hp} {s : Shared} {rel : Heap → Hp → β → α → Prop} {m : Sem α} {Q : β → Hp → Prop} {R : V → Hp → Prop} {P : α → Shared → Prop} {PE : Value → Shared → Prop}
    (h : wpAny C.M A m (Post C H s.heap rel Q) (Post C H s.heap VRel R) s)
    (h' : ∀ x v H₁ s₁, Q v H₁ → Sim C H₁ s₁ → rel s₁.heap H₁ v x → Ext H s.heap H₁ s₁.heap → P x s₁)
    (hE : ∀ e s₁, Post C H s.heap VRel R e s₁ → PE e s₁ := by intro _ _ p; exact p) : wpAny C.M A m P PE s :=
  wpAny_mono h (fun x s₁ ⟨v, H₁, q, S₁, r, E⟩ => h' x v H₁ s₁ q S₁ r E) hE
theorem wp_fin {α β : Type} {C : Cx} {A : Around} {H H₁ : Hp} {s₁ : Shared} {h : Heap} {rel : Heap → Hp → β → α → Prop} {m : Sem α} {Q : β → Hp → Prop} {R : V → Hp → Prop} (E : Ext H h H₁ s₁.heap)
    (x : wpAny C.M A m (Post C H₁ s₁.heap rel Q) (Post C H₁ s₁.heap VRel R) s₁) : wpAny C.M A m (Post C H h rel Q) (Post C H h VRel R) s₁ :=
  wpAny_mono x (fun _ _ p => p.after E) fun _ _ p => p.after E

theorem EvalW.binop {l op r p} (h : EvalW C k env l (fun v H₁ => EvalW C k env r (fun w H₂ => BinW C k op v w Q R H₂) R ρ H₁) R ρ H) :
    EvalW C k env (.BinOp l op r p) Q R ρ H := fun A a s S =>
  wpAny_BinOp (wp_go (h A a s S) fun x v H₁ s₁ h₁ S₁ r₁ E₁ => wp_go (h₁ A a s₁ (S.ext S₁ E₁)) (fun y w H₂ s₂ h₂ S₂ r₂ E₂ => wp_fin (E₁.trans E₂) (h₂ A a s₂ x y S₂ (r₁.ext E₂) r₂)) fun _ _ p => p.after E₁)
theorem EvalW.compare {l op r p} (h : EvalW C k env l (fun v H₁ => EvalW C k env r (fun w H₂ => CmpW C k op v w Q R H₂) R ρ H₁) R ρ H)
    (hm : behindInMarks op r = false := by with_unfolding_all rfl) :
    EvalW C k env (.Compare l [op] [r] p) Q R ρ H := fun A a s S =>
  wpAny_Compare1 (wp_go (h A a s S) fun x v H₁ s₁ h₁ S₁ r₁ E₁ => wp_go (h₁ A a s₁ (S.ext S₁ E₁)) (fun y w H₂ s₂ h₂ S₂ r₂ E₂ => wp_fin (E₁.trans E₂) (h₂ A a s₂ x y S₂ (r₁.ext E₂) r₂)) fun _ _ p => p.after E₁) hm
theorem TestW.compare {l op r p} (h : EvalW C k env l (fun v H₁ => EvalW C k env r (fun w H₂ => CmpW C k op v w (fun u H₃ => TruthW C k u QB R H₃) R H₂) R ρ H₁) R ρ H)
    (hm : behindInMarks op r = false := by with_unfolding_all rfl) :
    TestW C k env (.Compare l [op] [r] p) QB R ρ H := fun A a s S =>
  wpAny_isTrue_Compare1 (wp_go (h A a s S) fun x v H₁ s₁ h₁ S₁ r₁ E₁ => wp_go (h₁ A a s₁ (S.ext S₁ E₁)) (fun y w H₂ s₂ h₂ S₂ r₂ E₂ =>
    wp_go (h₂ A a s₂ x y S₂ (r₁.ext E₂) r₂) (fun z u H₃ s₃ h₃ S₃ r₃ E₃ => wp_fin ((E₁.trans E₂).trans E₃) (h₃ A a s₃ z S₃ r₃)) fun _ _ p => p.after (E₁.trans E₂)) fun _ _ p => p.after E₁) hm

theorem TestW.not {x p} (h : TestW C k env x (fun b H₁ => QB (!b) H₁) R ρ H) : TestW C k env (.UnaryOp .Not x p) QB R ρ H := fun A a s S =>
  isTrue_not (wpAny_mono (h A a s S) (fun b s' ⟨v, H', q, S', r, E⟩ => ⟨!v, H', q, S', by unfold BRel at *; rw [r], E⟩) fun _ _ x => x)
theorem TestW.and_nil {p} (h : QB true H) : TestW C k env (.BoolOp .And [] p) QB R ρ H := fun A a s S => isTrue_and_nil (Post.here h S.sim rfl rfl)
theorem TestW.or_nil {p} (h : QB false H) : TestW C k env (.BoolOp .Or [] p) QB R ρ H := fun A a s S => isTrue_or_nil (Post.here h S.sim rfl rfl)
theorem TestW.and {x rest p} (h : TestW C k env x (fun b H₁ => if b = true then TestW C k env (.BoolOp .And rest p) QB R ρ H₁ else QB false H₁) R ρ H) :
    TestW C k env (.BoolOp .And (x :: rest) p) QB R ρ H := fun A a s S => by
  refine isTrue_and (wpAny_mono (h A a s S) ?_ fun _ _ x => x)
  rintro b s' ⟨v, H', q, S', rfl, E⟩
  cases v
  · simp only [Bool.false_eq_true, if_false] at q ⊢; exact ⟨false, H', q, S', rfl, E⟩
  · simp only [if_true] at q ⊢; exact wpAny_mono (q A a s' (S.ext S' E)) (fun _ _ p => p.after E) fun _ _ p => p.after E
theorem TestW.or {x rest p} (h : TestW C k env x (fun b H₁ => if b = true then QB true H₁ else TestW C k env (.BoolOp .Or rest p) QB R ρ H₁) R ρ H) :
    TestW C k env (.BoolOp .Or (x :: rest) p) QB R ρ H := fun A a s S => by
  refine isTrue_or (wpAny_mono (h A a s S) ?_ fun _ _ x => x)
  rintro b s' ⟨v, H', q, S', rfl, E⟩
  cases v
  · simp only [Bool.false_eq_true, if_false] at q ⊢; exact wpAny_mono (q A a s' (S.ext S' E)) (fun _ _ p => p.after E) fun _ _ p => p.after E
  · simp only [if_true] at q ⊢; exact ⟨true, H', q, S', rfl, E⟩
theorem TestW.plain {e} (h : EvalW C k env e (fun v H₁ => TruthW C k v QB R H₁) R ρ H)
    (he : ∀ whole, isTrue e env whole = (do let v ← whole; standAt e.pos; holding [v] (truthy v)) := by intro; rfl) : TestW C k env e QB R ρ H := fun A a s S =>
  isTrue_plain (wp_go (h A a s S) fun x v H₁ s₁ h₁ S₁ r₁ E₁ => wp_fin E₁ (h₁ A a s₁ x S₁ r₁)) (he _)

theorem EvalW.not {x p} (h : EvalW C k env x (fun v H₁ => TruthW C k v (fun b H₂ => Q (.bool (!b)) H₂) R H₁) R ρ H) : EvalW C k env (.UnaryOp .Not x p) Q R ρ H := fun A a s S => by
  refine UnaryOp_ (wp_go (h A a s S) fun x v H₁ s₁ h₁ S₁ r₁ E₁ => not_of (wpAny_mono (h₁ A a s₁ x S₁ r₁) ?_ fun _ _ p => p.after E₁))
  rintro c s' ⟨v, H', q, S', rfl, E⟩
  exact ⟨_, H', q, S', .bool _, E₁.trans E⟩
theorem EvalW.and_one {op e p} (h : EvalW C k env e Q R ρ H) : EvalW C k env (.BoolOp op [e] p) Q R ρ H := fun A a s S => BoolOp_one (h A a s S)
theorem EvalW.and {e₁ e₂ rest p} (h : EvalW C k env e₁ (fun v H₁ => TruthW C k v (fun b H₂ => if b = true then EvalW C k env (.BoolOp .And (e₂ :: rest) p) Q R ρ H₂ else Q v H₂) R H₁) R ρ H) :
    EvalW C k env (.BoolOp .And (e₁ :: e₂ :: rest) p) Q R ρ H := fun A a s S => by
  refine BoolOp_and (wpAny_mono (h A a s S) ?_ fun _ _ x => x)
  rintro x s₁ ⟨v, H₁, h₁, S₁, r₁, E₁⟩
  refine wpAny_mono (h₁ A a s₁ x S₁ r₁) ?_ fun _ _ p => p.after E₁
  rintro b s' ⟨b', H', q, S', rfl, E⟩
  cases b'
  · simp only [Bool.false_eq_true, if_false] at q ⊢; exact ⟨v, H', q, S', r₁.ext E, E₁.trans E⟩
  · simp only [if_true] at q ⊢; exact wpAny_mono (q A a s' (S.ext S' (E₁.trans E))) (fun _ _ p => p.after (E₁.trans E)) fun _ _ p => p.after (E₁.trans E)
end Mine

set_option Elab.async false
set_option linter.unusedVariables false
namespace Mine
open PySem PyProof.Rows

theorem get_eq_of {h h' : Heap} {b a : Addr} {o : Obj} (hk : ∀ a o, a ≠ b → h.get? a = some o → h'.get? a = some o) (n : a ≠ b) (e : h.get? a = some o) : h'.get? a = h.get? a := (hk a o n e).trans e.symm

/-- an object that is neither owned nor list nor tuple is changed; others may be new -/
theorem Sim.touch {C : Cx} {H : Hp} {s s' : Shared} {b : Addr} {ob : Obj} (S : Sim C H s) (hb : s.heap.get? b = some ob) (nb : ∀ xs n, ob.data ≠ .seq xs n) (Hb : H b = none) (new : C.base.get? b = none)
    (hk : ∀ a o, a ≠ b → s.heap.get? a = some o → s'.heap.get? a = some o) (hg : s'.gens = s.gens) (ho : s'.os = s.os) (nf : (∃ o' es ep, s'.heap.get? b = some o' ∧ o'.data = .dict es ep) ∨ (∀ es ep, ob.data ≠ .dict es ep) ∨ ∃ h0 H0, FrOK C H0 h0 ∧ h0.get? b = none) : Sim C H s' := by
  refine ⟨fun a o e => hk a o (fun q => ?_) (S.keep a o e), hg.trans S.gens, ho.trans S.os, fun a o e => ?_, S.new, ?_⟩
  · subst q; rw [new] at e; cases e
  · have r := S.objs a o e
    obtain ⟨ob', e'⟩ := r.lt
    exact r.same (ExtV.but hb nb hk) (get_eq_of hk (fun q => by subst q; rw [Hb] at e; cases e) e')
  · rcases nf with nf | nf | ⟨h0, H0, F0, n0⟩
    · exact S.frs.same fun L o es ep e n d => ⟨n, if q : L = b then q ▸ nf else ⟨o, es, ep, hk L o q e, d⟩⟩
    · exact S.frs.keep fun L o es ep e n d => ⟨n, hk L o (fun q => by subst q; rw [hb] at e; cases e; exact nf _ _ d) e⟩
    · intro l el env m
      obtain ⟨q, L, o, e1, e2, e3, e4, e5⟩ := S.frs l el env m
      obtain ⟨_, L0, o0, f1, _, _, f4, _⟩ := F0 l el env m
      rw [e1] at f1; cases f1
      exact ⟨q, L, o, e1, e2, e3, hk L o (fun z => by rw [z, n0] at f4; cases f4) e4, e5⟩

theorem ns_noseq {h : Heap} {L : Addr} {m} (n : h.Ns L m) : ∃ o, h.get? L = some o ∧ ∀ xs n, o.data ≠ .seq xs n := by
  obtain ⟨o, es, ep, e, d, _⟩ := n
  exact ⟨o, e, fun xs n q => by rw [d] at q; cases q⟩
theorem ns_dict {h : Heap} {L : Addr} {m} (n : h.Ns L m) : ∃ o es ep, h.get? L = some o ∧ o.data = .dict es ep := by
  obtain ⟨o, es, ep, e, d, _⟩ := n
  exact ⟨o, es, ep, e, d⟩
theorem cell_nodict {h : Heap} {c : Addr} {v} (n : h.IsCell c v) {o : Obj} (e : h.get? c = some o) : ∀ es ep, o.data ≠ .dict es ep := by
  obtain ⟨o', e', d⟩ := n
  rw [e'] at e; cases e
  intro es ep q; rw [d] at q; cases q
theorem cell_noseq {h : Heap} {c : Addr} {v} (n : h.IsCell c v) : ∃ o, h.get? c = some o ∧ ∀ xs n, o.data ≠ .seq xs n := by
  obtain ⟨o, e, d⟩ := n
  exact ⟨o, e, fun xs n q => by rw [d] at q; cases q⟩

inductive Fl where
  | next | brk | cont
  | ret (v : V)

def FlRel (h : Heap) (H : Hp) : Fl → Flow → Prop
  | .next, .next => True
  | .brk, .brk => True
  | .cont, .cont => True
  | .ret v, .ret x => VRel h H v x
  | _, _ => False

def PostS (C : Cx) (env : Env) (H : Hp) (h : Heap) (Q : Fl → Rho → Hp → Prop) : Flow → Shared → Prop :=
  fun f s' => ∃ fl ρ' H', Q fl ρ' H' ∧ FlRel s'.heap H' fl f ∧ SimL C env ρ' H' s' ∧ ExtF env H h H' s'.heap
def PostX (C : Cx) (env : Env) (H : Hp) (h : Heap) (R : V → Rho → Hp → Prop) : Value → Shared → Prop :=
  fun e s' => ∃ v ρ' H', R v ρ' H' ∧ VRel s'.heap H' v e ∧ SimL C env ρ' H' s' ∧ ExtF env H h H' s'.heap
theorem PostS.after {C : Cx} {env : Env} {H H₁ : Hp} {h h₁ : Heap} {Q : Fl → Rho → Hp → Prop} (E : ExtF env H h H₁ h₁) {x : Flow} {s' : Shared} (p : PostS C env H₁ h₁ Q x s') : PostS C env H h Q x s' :=
  let ⟨v, ρ, H', q, r, S, E'⟩ := p; ⟨v, ρ, H', q, r, S, E.trans E'⟩
theorem PostX.after {C : Cx} {env : Env} {H H₁ : Hp} {h h₁ : Heap} {R : V → Rho → Hp → Prop} (E : ExtF env H h H₁ h₁) {x : Value} {s' : Shared} (p : PostX C env H₁ h₁ R x s') : PostX C env H h R x s' :=
  let ⟨v, ρ, H', q, r, S, E'⟩ := p; ⟨v, ρ, H', q, r, S, E.trans E'⟩

def ExecW (C : Cx) (k : Nat) (env : Env) (st : Stmt) (Q : Fl → Rho → Hp → Prop) (R : V → Rho → Hp → Prop) (ρ : Rho) (H : Hp) : Prop :=
  ∀ A, Lv C k A → ∀ s, SimL C env ρ H s → wpAny C.M A (exec st env) (PostS C env H s.heap Q) (PostX C env H s.heap R) s
def ExecsW (C : Cx) (k : Nat) (env : Env) (st : List Stmt) (Q : Fl → Rho → Hp → Prop) (R : V → Rho → Hp → Prop) (ρ : Rho) (H : Hp) : Prop :=
  ∀ A, Lv C k A → ∀ s, SimL C env ρ H s → wpAny C.M A (execs st env) (PostS C env H s.heap Q) (PostX C env H s.heap R) s

/-- an expression's raise, seen by its statement -/
theorem Post.toX {C : Cx} {env : Env} {ρ : Rho} {H : Hp} {s : Shared} {R : V → Rho → Hp → Prop} (S : SimL C env ρ H s) {e : Value} {s' : Shared} (p : Post C H s.heap VRel (fun v H' => R v ρ H') e s') : PostX C env H s.heap R e s' :=
  let ⟨v, H', q, S', r, E⟩ := p; ⟨v, ρ, H', q, r, S.ext S' E, E.toF⟩

variable {C : Cx} {k : Nat} {env : Env} {ρ : Rho} {H : Hp} {Q : Fl → Rho → Hp → Prop} {R : V → Rho → Hp → Prop}

theorem ExecsW.nil (h : Q .next ρ H) : ExecsW C k env [] Q R ρ H := fun A a s S => wpAny_execs_nil ⟨.next, ρ, H, h, trivial, S, ExtF.refl _ _ _⟩

/-- behind a statement -/
def Cont (C : Cx) (k : Nat) (env : Env) (rest : List Stmt) (Q : Fl → Rho → Hp → Prop) (R : V → Rho → Hp → Prop) : Fl → Rho → Hp → Prop
  | .next, ρ, H => ExecsW C k env rest Q R ρ H
  | f, ρ, H => Q f ρ H

theorem ExecsW.cons {st rest} (h : ExecW C k env st (Cont C k env rest Q R) R ρ H) : ExecsW C k env (st :: rest) Q R ρ H := fun A a s S => by
  refine wpAny_execs_cons (wpAny_mono (h A a s S) ?_ fun _ _ x => x)
  rintro f s' ⟨fl, ρ', H', q, r, S', E⟩
  cases fl <;> cases f <;> first | exact r.elim | skip
  · exact wpAny_mono (q A a s' S') (fun _ _ p => p.after E) fun _ _ p => p.after E
  · exact ⟨.brk, ρ', H', q, r, S', E⟩
  · exact ⟨.cont, ρ', H', q, r, S', E⟩
  · exact ⟨.ret _, ρ', H', q, r, S', E⟩

theorem ExecW.ret {e p} (h : EvalW C k env e (fun v H' => Q (.ret v) ρ H') (fun v H' => R v ρ H') ρ H) : ExecW C k env (.Return (some e) p) Q R ρ H := fun A a s S =>
  wpAny_Return_some (wpAny_mono (h A a s S) (fun x s' ⟨v, H', q, S', r, E⟩ => ⟨.ret v, ρ, H', q, r, S.ext S' E, E.toF⟩) fun _ _ p => p.toX S)
theorem ExecW.if_ {t b o p} (h : TestW C k env t (fun c H' => if c = true then ExecsW C k env b Q R ρ H' else ExecsW C k env o Q R ρ H') (fun v H' => R v ρ H') ρ H) : ExecW C k env (.If t b o p) Q R ρ H := fun A a s S => by
  refine wpAny_If (wpAny_mono (h A a s S) ?_ fun _ _ p => p.toX S)
  rintro c s' ⟨c', H', q, S', rfl, E⟩
  cases c'
  · simp only [Bool.false_eq_true, if_false] at q ⊢; exact wpAny_mono (q A a s' (S.ext S' E)) (fun _ _ p => p.after E.toF) fun _ _ p => p.after E.toF
  · simp only [if_true] at q ⊢; exact wpAny_mono (q A a s' (S.ext S' E)) (fun _ _ p => p.after E.toF) fun _ _ p => p.after E.toF

/-- storing a name -/
theorem store_local {A : Around} {E : Value → Shared → Prop} {x : Str} {v : V} {u : Value} {s : Shared} {P : Unit → Shared → Prop} (hk : env.kindOf x = some .local) (S : SimL C env ρ H s) (r : VRel s.heap H v u)
    (h : ∀ s', SimL C env (ρ.set x v) H s' → ExtF env H s.heap H s'.heap → (∀ a o, a ≠ env.locals → s.heap.get? a = some o → s'.heap.get? a = some o) → s'.gens = s.gens → P () s') : wpAny C.M A (storeName env x u) P E s := by
  obtain ⟨m, cm, F, rr⟩ := S.frm
  refine wpAny_storeName_local hk F.ns (fun h' hn hs => ?_) (by rw [S.kind]; rfl)
  obtain ⟨oL, eL, nL⟩ := ns_noseq F.ns
  have hk' : ∀ a o, a ≠ env.locals → s.heap.get? a = some o → h'.get? a = some o := fun a o n e => hs.extBut a o n e
  have S1 : Sim C H { s with heap := h', toks := s.toks + 1 } := S.sim.touch (s' := { s with heap := h', toks := s.toks + 1 }) eL nL F.own F.above hk' rfl rfl (.inl (ns_dict hn))
  have V1 : ExtV H s.heap H h' := ExtV.but eL nL hk'
  obtain ⟨oL', eL', _⟩ := ns_noseq hn
  refine h _ ⟨S1, S.kind, S.globals, S.builtins, _, cm, ⟨hn, fun n c e => ?_, F.own, F.ownc, F.above, F.abovec, F.apart⟩, fun y w e => ?_⟩ ⟨fun a o e _ n _ => .of (hk' a o n e), fun a o e n => n, fun a o e => ?_⟩ hk' rfl
  · have := F.cell n c e
    refine this.sameBut hs fun q => ?_
    obtain ⟨oc, ec, dc⟩ := this
    subst q; obtain ⟨o, es, ep, e1, d1, _⟩ := F.ns; rw [e1] at ec; cases ec; rw [d1] at dc; cases dc
  · unfold Rho.set at e
    unfold LocRel
    by_cases q : y = x
    · subst q
      rw [if_pos rfl] at e; cases e
      rw [hk]; exact ⟨u, by simp, r.extV V1⟩
    · rw [if_neg q] at e
      have := (rr y w e).extV V1
      unfold LocRel at this
      split at this
      · obtain ⟨u', a, b⟩ := this; exact ⟨u', by simp [q, a], b⟩
      · exact this
      · exact this
      · trivial
  · by_cases q : a = env.locals
    · subst q; exact ⟨oL', eL'⟩
    · exact ⟨o, hk' a o q e⟩
theorem store_cell {A : Around} {E : Value → Shared → Prop} {x : Str} {v : V} {u : Value} {s : Shared} {P : Unit → Shared → Prop} (hk : env.kindOf x = some .cell) (hc : (env.cells.lookup x).isSome = true) (S : SimL C env ρ H s) (r : VRel s.heap H v u)
    (h : ∀ s', SimL C env (ρ.set x v) H s' → ExtF env H s.heap H s'.heap → (∀ a o, (∀ n, env.cells.lookup n ≠ some a) → s.heap.get? a = some o → s'.heap.get? a = some o) → s'.gens = s.gens → P () s') : wpAny C.M A (storeName env x u) P E s := by
  obtain ⟨m, cm, F, rr⟩ := S.frm
  obtain ⟨c, hc⟩ := Option.isSome_iff_exists.mp hc
  refine wpAny_storeName_cell S.kind hk hc (F.cell x c hc) (fun h' hn hs => ?_)
  obtain ⟨oL, eL, nL⟩ := cell_noseq (F.cell x c hc)
  have hk' : ∀ a o, a ≠ c → s.heap.get? a = some o → h'.get? a = some o := fun a o n e => hs.extBut a o n e
  have S1 : Sim C H { s with heap := h' } := S.sim.touch (s' := { s with heap := h' }) eL nL (F.ownc x c hc) (F.abovec x c hc) hk' rfl rfl (.inr (.inl (cell_nodict (F.cell x c hc) eL)))
  have V1 : ExtV H s.heap H h' := ExtV.but eL nL hk'
  obtain ⟨oL', eL', _⟩ := cell_noseq hn
  refine h _ ⟨S1, S.kind, S.globals, S.builtins, m, fun y => if y = x then some u else cm y, ⟨?_, fun n c' e => ?_, F.own, F.ownc, F.above, F.abovec, F.apart⟩, fun y w e => ?_⟩ ⟨fun a o e _ _ n => .of (hk' a o (fun q => n x (q ▸ hc)) e), fun a o e n => n, fun a o e => ?_⟩ (fun a o n e => hk' a o (fun q => n x (q ▸ hc)) e) rfl
  · refine F.ns.sameBut hs fun q => ?_
    obtain ⟨oc, ec, dc⟩ := F.cell x c hc
    obtain ⟨o, es, ep, e1, d1, _⟩ := F.ns; rw [← q, e1] at ec; cases ec; rw [d1] at dc; cases dc
  · by_cases q : n = x
    · subst q; rw [hc] at e; cases e; simpa using hn
    · rw [if_neg q]
      exact (F.cell n c' e).sameBut hs fun q' => q (F.apart n x c (q' ▸ e) hc)
  · unfold Rho.set at e
    unfold LocRel
    by_cases q : y = x
    · subst q
      rw [if_pos rfl] at e; cases e
      rw [hk]; exact ⟨u, c, hc, by simp, r.extV V1⟩
    · rw [if_neg q] at e
      have := (rr y w e).extV V1
      unfold LocRel at this
      split at this
      · exact this
      · obtain ⟨u', c', a, b, d⟩ := this; exact ⟨u', c', a, by simp [q, b], d⟩
      · obtain ⟨u', c', a, b, d⟩ := this; exact ⟨u', c', a, by simp [q, b], d⟩
      · trivial
  · by_cases q : a = c
    · subst q; exact ⟨oL', eL'⟩
    · exact ⟨o, hk' a o q e⟩

/-- a name that a frame can store -/
def Storable (env : Env) (x : Str) : Prop := env.kindOf x = some .local ∨ (env.kindOf x = some .cell ∧ (env.cells.lookup x).isSome = true)
theorem store_W {A : Around} {E : Value → Shared → Prop} {x : Str} {v : V} {u : Value} {s : Shared} {P : Unit → Shared → Prop} (hk : Storable env x) (S : SimL C env ρ H s) (r : VRel s.heap H v u)
    (h : ∀ s', SimL C env (ρ.set x v) H s' → ExtF env H s.heap H s'.heap → s'.gens = s.gens → P () s') : wpAny C.M A (storeName env x u) P E s := by
  rcases hk with hk | ⟨hk, hc⟩
  · exact store_local hk S r fun s' a b _ d => h s' a b d
  · exact store_cell hk hc S r fun s' a b _ d => h s' a b d

theorem ExecW.assign {x p' e p} (hk : Storable env x) (h : EvalW C k env e (fun v H' => Q .next (ρ.set x v) H') (fun v H' => R v ρ H') ρ H)
    (hs : swapsWith e (some (.Name x p')) p.line env = pure false := by rfl) : ExecW C k env (.Assign [.Name x p'] e p) Q R ρ H := fun A a s S => by
  refine wpAny_Assign_Name (wpAny_mono (h A a s S) ?_ fun _ _ p => p.toX S) hs
  rintro u s' ⟨v, H', q, S', r, E⟩
  exact store_W hk (S.ext S' E) r fun s'' S'' E'' _ => ⟨.next, _, H', q, trivial, S'', E.toF.trans E''⟩

end Mine

set_option Elab.async false
set_option linter.unusedVariables false
namespace Mine
open PySem PyProof.Rows

/-- nothing old is changed; new objects may come -/
theorem Sim.grown {C : Cx} {H : Hp} {s s' : Shared} (S : Sim C H s) (hk : ∀ a o, s.heap.get? a = some o → s'.heap.get? a = some o) (hg : s'.gens = s.gens) (ho : s'.os = s.os) : Sim C H s' := by
  refine ⟨fun a o e => hk a o (S.keep a o e), hg.trans S.gens, ho.trans S.os, fun a o e => ?_, S.new, S.frs.keep fun L o _ _ e n _ => ⟨n, hk L o e⟩⟩
  have r := S.objs a o e
  obtain ⟨ob', e'⟩ := r.lt
  exact r.same (fun a o _ _ e _ n => ⟨.of (hk a o e), n⟩) ((hk a ob' e').trans e'.symm)
theorem Ext.grown {H : Hp} {h h' : Heap} (hk : ∀ a o, h.get? a = some o → h'.get? a = some o) : Ext H h H h' := ⟨fun a o e _ => .of (hk a o e), fun _ _ _ n => n, fun a o e => ⟨o, hk a o e⟩⟩
theorem Sim.freshB {C : Cx} {H : Hp} {s : Shared} (S : Sim C H s) {a : Addr} (h : s.heap.objs.size ≤ a) : C.base.get? a = none := by
  cases e : C.base.get? a with
  | none => rfl
  | some o => exact absurd (Heap.lt_size (S.keep a o e)) (Nat.not_lt.mpr h)
theorem Sim.freshS {C : Cx} {H : Hp} {s : Shared} (S : Sim C H s) {a : Addr} (h : s.heap.objs.size ≤ a) : a ≠ sysModules := by
  obtain ⟨o, e⟩ := C.low
  have h1 := Heap.lt_size (S.keep _ _ e)
  have h2 : sysModules < cStatics := by decide
  intro q
  rw [q] at h
  exact absurd (Nat.lt_of_lt_of_le (Nat.lt_trans h2 h1) h) (Nat.lt_irrefl _)
theorem Sim.fresh {C : Cx} {H : Hp} {s : Shared} (S : Sim C H s) {a : Addr} (h : s.heap.objs.size ≤ a) : H a = none := by
  cases e : H a with
  | none => rfl
  | some o => obtain ⟨ob, e'⟩ := (S.objs a o e).lt; exact absurd (Heap.lt_size e') (Nat.not_lt.mpr h)

/-- re-abstraction: objects are let go of (frozen) -/
def Fz (H : Hp) (v v' : V) (H' : Hp) : Prop := (∀ a, H a = none → H' a = none) ∧ ∀ (C : Cx) (s : Shared) (x : Value), Sim C H s → VRel s.heap H v x → Sim C H' s ∧ VRel s.heap H' v' x
theorem Fz.refl {H v} : Fz H v v H := ⟨fun _ e => e, fun _ _ _ S r => ⟨S, r⟩⟩
def Hp.le (H' H : Hp) : Prop := ∀ a o, H' a = some o → H a = some o
theorem Hp.le.none {H H' : Hp} (h : H'.le H) (a : Addr) (e : H a = Option.none) : H' a = Option.none := by
  cases q : H' a with
  | none => rfl
  | some o => rw [h a o q] at e; cases e
theorem ExtV.of_le {H H' : Hp} (h : H'.le H) (hp : Heap) : ExtV H hp H' hp := fun a o _ _ e _ n => ⟨.of e, h.none a n⟩
theorem Sim.le {C H H' s} (S : Sim C H s) (h : Hp.le H' H) : Sim C H' s :=
  ⟨S.keep, S.gens, S.os, fun a o e => (S.objs a o (h a o e)).same (ExtV.of_le h _) rfl, fun a e => S.new a fun q => e (h.none a q), S.frs.keep fun L o _ _ e n _ => ⟨h.none L n, e⟩⟩

mutual
inductive FzR (H : Hp) (D : Addr → Prop) : V → V → Prop
  | refl (v : V) : FzR H D v v
  | tup {l l' : List V} (h : FzRL H D l l') : FzR H D (.tup l) (.tup l')
  | lst {l l' : List V} (h : FzRL H D l l') : FzR H D (.lst l) (.lst l')
  | thaw {a : Addr} {l l' : List V} (hD : D a) (ha : H a = some (.list l)) (h : FzRL H D l l') : FzR H D (.ref a) (.lst l')
inductive FzRL (H : Hp) (D : Addr → Prop) : List V → List V → Prop
  | nil : FzRL H D [] []
  | cons {v v' : V} {l l' : List V} (h : FzR H D v v') (hl : FzRL H D l l') : FzRL H D (v :: l) (v' :: l')
end
mutual
theorem FzR.sound {C : Cx} {H H' : Hp} {D : Addr → Prop} {s : Shared} (S : Sim C H s) (hle : Hp.le H' H) (hD : ∀ a, D a → H' a = none) : ∀ {v v'}, FzR H D v v' → ∀ {x}, VRel s.heap H v x → VRel s.heap H' v' x
  | _, _, .refl v, x, r => r.extV (ExtV.of_le hle _)
  | _, _, .tup h, _, .tup ha ho hl => .tup ha (hle.none _ ho) (FzRL.sound S hle hD h hl)
  | _, _, .lst h, _, .lst ha ho hl => .lst ha (hle.none _ ho) (FzRL.sound S hle hD h hl)
  | _, _, .thaw (a := b) d ha h, x, rx => by
    obtain ⟨xs, e, r⟩ := S.objs _ _ ha
    have hx : x = .ref b := by cases rx; rfl
    subst hx
    exact .lst e.isList (hD _ d) (FzRL.sound S hle hD h r)
theorem FzRL.sound {C : Cx} {H H' : Hp} {D : Addr → Prop} {s : Shared} (S : Sim C H s) (hle : Hp.le H' H) (hD : ∀ a, D a → H' a = none) : ∀ {v v'}, FzRL H D v v' → ∀ {x}, VRelL s.heap H v x → VRelL s.heap H' v' x
  | _, _, .nil, _, .nil => .nil
  | _, _, .cons h hl, _, .cons r rl => .cons (FzR.sound S hle hD h r) (FzRL.sound S hle hD hl rl)
end
theorem Fz.of {H H' : Hp} {D : Addr → Prop} {v v' : V} (r : FzR H D v v') (hle : Hp.le H' H) (hD : ∀ a, D a → H' a = none) : Fz H v v' H' :=
  ⟨hle.none, fun C s x S rx => ⟨S.le hle, r.sound S hle hD rx⟩⟩
theorem Fz.drop {H H' : Hp} {v : V} (hle : Hp.le H' H) : Fz H v v H' := Fz.of (D := fun _ => False) (.refl v) hle fun _ h => h.elim

abbrev SpecT := List V → (V → Hp → Prop) → (V → Hp → Prop) → Hp → Prop

def PostC (C : Cx) (H : Hp) (h : Heap) (Q R : V → Hp → Prop) : Result → Shared → Prop := fun r s' => match r with
  | .ok (.ret x) => Post C H h VRel Q x s'
  | .ok _ => False
  | .error e => Post C H h VRel R e s'

def FnOK (C : Cx) (k : Nat) (f : Value) (S : SpecT) : Prop :=
  ∀ A, Lv C k A → ∀ s H args xs Q R, Sim C H s → VRelL s.heap H args xs → S args Q R H → codeAny C.M A (.call f ⟨xs, []⟩) (PostC C H s.heap Q R) s

theorem FnOK.call {C k f S} (h : FnOK C k f S) {args Q R H} (hs : S args Q R H) : CallW C k f args Q R H := fun A a s xs Sm r => by
  refine wpAny_call (codeAny_mono (h A a s H args xs Q R Sm r hs) fun r s' p => ?_)
  rcases r with e | (_ | _ | _ | v) <;> first | exact p | exact p.elim

def bindRho (ρ : Rho) : List Str → List V → Rho
  | n :: ns, v :: vs => bindRho (ρ.set n v) ns vs
  | _, _ => ρ

structure FnDef (C : Cx) (a : Addr) (fd : FuncData) (names : List Str) (body : List Stmt) : Prop where
  obj : ∃ o, C.base.get? a = some o ∧ o.data = .func fd
  limit : C.base.NoLimit
  code : C.base.CodeRec fd.code fd.qualname
  body : fd.body = .stmts body
  closure : fd.closure = []
  globals : fd.globals = mainGlobals
  builtins : fd.builtins = builtinsNs
  co : fd.scope.isCoroutine = false
  gen : fd.scope.isGenerator = false
  kind : fd.scope.kind = .function
  bind : ∀ vals : List Value, vals.length = names.length → bindArgs fd ⟨vals, []⟩ = pure (names.zip vals)
  kinds : ∀ n ∈ names, fd.scope.names.lookup n = some .local ∨ fd.scope.names.lookup n = some .cell

theorem cellsFrom_isSome : ∀ (names : List (Str × NameKind)) (n : Nat) (acc : List (Str × Addr)) (x : Str), (names.lookup x = some .cell ∨ (acc.lookup x).isSome = true) → ((cellsFrom n names acc).lookup x).isSome = true
  | [], n, acc, x, h => by rcases h with h | h; · cases h
                           · exact h
  | (y, kd) :: r, n, acc, x, h => by
    unfold cellsFrom
    rw [List.lookup_cons] at h
    split
    · rename_i hk
      refine cellsFrom_isSome r (n + 1) _ x ?_
      rw [List.lookup_cons]
      by_cases q : (x == y) = true
      · rw [q]; exact .inr rfl
      · have q' : (x == y) = false := by simpa using q
        rw [q'] at h ⊢; exact h
    · rename_i hk
      refine cellsFrom_isSome r n _ x ?_
      by_cases q : (x == y) = true
      · rw [q] at h
        rcases h with h | h
        · simp only [Option.some.injEq] at h; rw [h] at hk; simp at hk
        · exact .inr h
      · have q' : (x == y) = false := by simpa using q
        rw [q'] at h; exact h

/-- a frame of this def -/
structure EnvOf (fd : FuncData) (env : Env) : Prop where
  scope : env.scope = fd.scope
  cells : ∀ x, env.kindOf x = some .cell → (env.cells.lookup x).isSome = true

theorem bind_rel {h : Heap} {H : Hp} {env : Env} : ∀ (names : List Str) (args : List V) (vals : List Value), VRelL h H args vals → ∀ (ρ : Rho) (m cm : Str → Option Value), (∀ n ∈ names, env.kindOf n = some .local ∨ (env.kindOf n = some .cell ∧ (env.cells.lookup n).isSome = true)) →
    (∀ x v, ρ x = some v → LocRel h H env m cm x v) → ∀ x v, bindRho ρ names args x = some v → LocRel h H env (bindL env.kindOf (names.zip vals) m) (bindC env.kindOf (names.zip vals) cm) x v
  | [], args, vals, r, ρ, m, cm, hk, h0, x, v, e => by cases args <;> exact h0 x v e
  | n :: ns, [], _, .nil, ρ, m, cm, hk, h0, x, v, e => h0 x v e
  | n :: ns, a :: as, u :: us, .cons ru rs, ρ, m, cm, hk, h0, x, v, e => by
    rw [List.zip_cons_cons]
    unfold bindL bindC
    refine bind_rel ns as us rs (ρ.set n a) _ _ (fun y hy => hk y (.tail _ hy)) ?_ x v e
    intro y w ey
    unfold Rho.set at ey
    have hn := hk n (.head _)
    by_cases q : y = n
    · subst q
      rw [if_pos rfl] at ey; cases ey
      unfold LocRel
      rcases hn with hn | ⟨hn, hc⟩
      · rw [hn]; simp only [if_true]; exact ⟨u, by simp, ru⟩
      · rw [hn]
        obtain ⟨c, hc⟩ := Option.isSome_iff_exists.mp hc
        simp only [Option.some.injEq, reduceCtorEq, if_false]
        exact ⟨u, c, hc, by simp, ru⟩
    · rw [if_neg q] at ey
      have := h0 y w ey
      unfold LocRel at this ⊢
      split at this
      · rename_i hy
        obtain ⟨u', a', b'⟩ := this
        refine ⟨u', ?_, b'⟩
        split
        · simp [q, a']
        · exact a'
      · obtain ⟨u', c', a', b', d'⟩ := this
        refine ⟨u', c', a', ?_, d'⟩
        split
        · exact b'
        · simp [q, b']
      · obtain ⟨u', c', a', b', d'⟩ := this
        refine ⟨u', c', a', ?_, d'⟩
        split
        · exact b'
        · simp [q, b']
      · trivial

def Fl.val : Fl → V
  | .ret v => v
  | _ => .none

def RetQ (Q : V → Hp → Prop) : Fl → Rho → Hp → Prop := fun fl _ H => ∃ v' H', Fz H fl.val v' H' ∧ Q v' H'

theorem FlRel.val {h : Heap} {H : Hp} : ∀ {fl : Fl} {f : Flow}, FlRel h H fl f → VRel h H fl.val (match f with | .ret v => v | _ => .none)
  | .next, .next, _ => .none
  | .brk, .brk, _ => .none
  | .cont, .cont, _ => .none
  | .ret _, .ret _, r => r

/-- one more frame -/
abbrev Cx.push (C : Cx) (env : Env) : Cx := { C with frs := C.frs.map (env :: ·) }
theorem Sim.pop {C : Cx} {H : Hp} {s : Shared} {env : Env} (S : Sim (C.push env) H s) : Sim C H s :=
  ⟨S.keep, S.gens, S.os, S.objs, S.new, fun l e x m => S.frs (env :: l) (by show C.frs.map _ = _; rw [e]; rfl) x (.tail _ m)⟩
theorem Sim.push {C : Cx} {H : Hp} {s : Shared} {env : Env} {L : Addr} {o : Obj} (S : Sim C H s) (hk : env.scope.kind ≠ .module) (hf : env.frame = some L) (hb : C.base.get? L = none) (hH : H L = none) (hL : s.heap.get? L = some o) {es : Array DictEntry} {ep : Nat} (hd : o.data = .dict es ep) : Sim (C.push env) H s :=
  ⟨S.keep, S.gens, S.os, S.objs, S.new, fun l e x m => by
    change C.frs.map (env :: ·) = some l at e
    cases q : C.frs with
    | none => rw [q] at e; cases e
    | some l' =>
      rw [q] at e; cases e
      cases m with
      | head => exact ⟨hk, L, o, hf, hb, hH, hL, es, ep, hd⟩
      | tail _ m => exact S.frs l' q x m⟩
theorem FnOK.of_def {C : Cx} {k : Nat} {a : Addr} {fd : FuncData} {names : List Str} {body : List Stmt} {S : SpecT} (D : FnDef C a fd names body)
    (h : ∀ args Q R H, S args Q R H → args.length = names.length ∧ ∀ L, ExecsW (C.push (callEnvC fd L a)) k (callEnvC fd L a) body (RetQ Q) (fun _ _ _ => False) (bindRho (fun _ => none) names args) H) :
    FnOK C (k + 1) (.ref a) S := by
  intro A lv s H args xs Q R Sm rel hs
  obtain ⟨hlen, hb⟩ := h args Q R H hs
  obtain ⟨o, ho, hd⟩ := D.obj
  have hxl : xs.length = names.length := rel.length.trans hlen
  have hkinds : ∀ x ∈ names.zip xs, fd.scope.names.lookup x.1 = some .local ∨ (fd.scope.names.lookup x.1 = some .cell ∧ ((cellsFrom (s.heap.objs.size + 1) fd.scope.names []).lookup x.1).isSome = true) := by
    intro x hx
    rcases D.kinds x.1 (List.of_mem_zip (a := x.1) (b := x.2) hx).1 with q | q
    · exact .inl q
    · exact .inr ⟨q, cellsFrom_isSome _ _ _ _ (.inl q)⟩
  refine codeAny_call_cells (by have := lv.depth; omega) (Sm.keep _ _ ho) hd (D.limit.keeps Sm.keep) (D.code.keeps Sm.keep) D.body (D.bind xs hxl) D.closure hkinds (fun s₁ X => ?_) D.co D.gen D.kind
  have hkeep := X.toInCall.keep
  obtain ⟨h₁, tk, e₁, _⟩ := X.done
  have E₁ : Ext H s.heap H s₁.heap := Ext.grown hkeep
  have S₁ : Sim C H s₁ := Sm.grown hkeep (by rw [e₁]) (by rw [e₁])
  have EO : EnvOf fd (callEnvC fd s.heap.objs.size a) := ⟨rfl, fun x hx => cellsFrom_isSome _ _ _ _ (.inl hx)⟩
  obtain ⟨oL, esL, epL, eL, dL, _⟩ := X.toInCall.ns
  have S₂ : Sim (C.push (callEnvC fd s.heap.objs.size a)) H s₁ := S₁.push (by show fd.scope.kind ≠ _; rw [D.kind]; decide) rfl (Sm.freshB (Nat.le_refl _)) (Sm.fresh (Nat.le_refl _)) eL dL
  have SL : SimL (C.push (callEnvC fd s.heap.objs.size a)) (callEnvC fd s.heap.objs.size a) (bindRho (fun _ => none) names args) H s₁ := by
    refine ⟨S₂, D.kind, D.globals, D.builtins, _, _, ⟨X.toInCall.ns, X.cell, Sm.fresh (Nat.le_refl _), fun n c e => Sm.fresh ?_, Sm.freshB (Nat.le_refl _), fun n c e => Sm.freshB ?_, fun n n' c e e' => name_of_addr X.apart (mem_of_lookup e) (mem_of_lookup e')⟩, ?_⟩
    · exact Nat.le_of_lt (X.above n c (mem_of_lookup e))
    · exact Nat.le_of_lt (X.above n c (mem_of_lookup e))
    · refine bind_rel names args xs (rel.ext E₁) _ _ _ (fun n hn => ?_) (fun x v e => by cases e)
      rcases D.kinds n hn with q | q
      · exact .inl q
      · exact .inr ⟨q, EO.cells n q⟩
  have lv' : Lv (C.push (callEnvC fd s.heap.objs.size a)) k (A.deeper (callEnvC fd s.heap.objs.size a)) := ⟨fun e => lv.handled e, by have := lv.depth; show A.depth + 1 + 2 * k + 100 < _; omega, by have := lv.units; show A.units + 3 + 40 * k + 100 < _; omega, fun l e => by
    change C.frs.map (callEnvC fd s.heap.objs.size a :: ·) = some l at e
    cases q : C.frs with
    | none => rw [q] at e; cases e
    | some l' => rw [q] at e; cases e; exact Around.frames_deeper (lv.frames l' q)⟩
  refine wpAny_mono (hb _ _ lv' s₁ SL) ?_ ?_
  · rintro f s' ⟨fl, ρ', H', ⟨v', H'', fz, q⟩, r, S', E'⟩
    have E'' : Ext H s.heap H' s'.heap := by
      refine ⟨fun b ob e n => E'.keep b ob (hkeep b ob e) n ?_ ?_, fun b ob e n => E'.grow b ob (hkeep b ob e) n, fun b ob e => E'.live b ob (hkeep b ob e)⟩
      · exact Nat.ne_of_lt (Heap.lt_size e)
      · intro n' e'
        have h1 := X.above n' b (mem_of_lookup e')
        have h2 := Heap.lt_size e
        exact absurd (Nat.lt_trans (show s.heap.objs.size < b from h1) h2) (Nat.lt_irrefl _)
    have rv := r.val
    obtain ⟨S'', r''⟩ := fz.2 C s' _ S'.sim.pop rv
    exact ⟨v', H'', q, S'', r'', ⟨E''.keep, fun b ob e n => fz.1 b (E''.grow b ob e n), E''.live⟩⟩
  · rintro e s' ⟨_, _, _, q, _⟩; exact q.elim

end Mine

set_option Elab.async false
set_option linter.unusedVariables false
namespace Mine
open PySem PyProof.Rows

def ArgsW (C : Cx) (k : Nat) (env : Env) (es : List Expr) (Q : List V → Hp → Prop) (R : V → Hp → Prop) (ρ : Rho) (H : Hp) : Prop :=
  ∀ A, Lv C k A → ∀ s, SimL C env ρ H s → ∀ pos, wpAny C.M A (spliced (backTo pos (starEach es env))) (Post C H s.heap VRelL Q) (Post C H s.heap VRel R) s

variable {C : Cx} {k : Nat} {env : Env} {ρ : Rho} {H : Hp} {Q R : V → Hp → Prop} {QL : List V → Hp → Prop}

theorem ArgsW.nil (h : QL [] H) : ArgsW C k env [] QL R ρ H := fun A a s S pos => args_nil (Post.here h S.sim .nil rfl)
theorem ArgsW.cons {e rest} (h : EvalW C k env e (fun v H₁ => ArgsW C k env rest (fun vs H₂ => QL (v :: vs) H₂) R ρ H₁) R ρ H)
    (he : starEach (e :: rest) env = (false, eval e env) :: starEach rest env := by rfl) : ArgsW C k env (e :: rest) QL R ρ H := fun A a s S pos => by
  refine args_cons ?_ he
  refine wp_go (h A a s S) fun x v H₁ s₁ h₁ S₁ r₁ E₁ => wp_go (h₁ A a s₁ (S.ext S₁ E₁) pos) (fun xs vs H₂ s₂ h₂ S₂ r₂ E₂ => ?_) fun _ _ p => p.after E₁
  exact ⟨_, H₂, h₂, S₂, .cons (r₁.ext E₂) r₂, E₁.trans E₂⟩

theorem evalArgs_any {M : Model} {A : Around} {E : Value → Shared → Prop} {s : Shared} {f : Value} {args : List (Bool × Sem Value)} {Q : Args → Shared → Prop} (hplain : args.any (·.1) = false)
    (h : wpAny M A (spliced args) (fun vs s' => Q ⟨vs, []⟩ s') E s) : wpAny M A (evalArgs f true args []) Q E s := by
  cases args with
  | nil =>
    unfold evalArgs
    show wpAny M A (spliced [] >>= _) Q E s
    refine wpAny_bind (wpAny_mono h (fun vs s' h' => ?_) fun _ _ x => x)
    refine wpAny_holding ?_
    exact wpAny_bind (wpAny_pure (wpAny_bind (wpAny_pure (wpAny_pure h'))))
  | cons x rest =>
    obtain ⟨b, x⟩ := x
    have : b = false := by simp at hplain; exact hplain.1
    subst this
    exact Calls.evalArgs_plain h

/-- a callee that a plain call reaches: its arguments, then the call -/
def Plainly (C : Cx) (f : Value) : Prop :=
  ∀ (A : Around) (E : Value → Shared → Prop) (Q : Value → Shared → Prop) (s : Shared) (first : List Value) (pos : Pos) (args : List (Bool × Sem Value)), args.any (·.1) = false →
    wpAny C.M A (spliced args) (fun vs s₁ => (∀ b o, C.base.get? b = some o → s₁.heap.get? b = some o) ∧ wpAny C.M A (call f (first ++ vs)) Q E s₁) E s → wpAny C.M A (callWith pos f first args []) Q E s
theorem Plainly.builtin (id : String) : Plainly C (.builtin id) := fun A E Q s first pos args hp h =>
  Calls.callWith_builtin hp (evalArgs_any hp (wpAny_mono h (fun _ _ x => x.2) fun _ _ x => x))
theorem Plainly.type (T : String) : Plainly C (.type T) := fun A E Q s first pos args hp h =>
  PySem.callWith_type hp (evalArgs_any hp (wpAny_mono h (fun _ _ x => x.2) fun _ _ x => x))
theorem Plainly.fn {a : Addr} {o : Obj} {fd : FuncData} (ho : C.base.get? a = some o) (hd : o.data = .func fd) : Plainly C (.ref a) := fun A E Q s first pos args hp h =>
  Calls.callWith_function (o := o) (fd := fd) (evalArgs_any hp (wpAny_mono h (fun _ _ x => ⟨⟨x.1 _ _ ho, hd⟩, x.2⟩) fun _ _ x => x))
theorem backTo_plain {pos : Pos} : ∀ {l : List (Bool × Sem Value)}, l.any (·.1) = false → (backTo pos l).any (·.1) = false
  | [], _ => rfl
  | (b, t) :: r, h => by
    have h' : (b || r.any (·.1)) = false := h
    have hb : b = false := by revert h'; cases b <;> simp
    subst hb
    show (false || (backTo pos r).any (·.1)) = false
    rw [backTo_plain (by simpa using h')]; rfl

theorem EvalW.call {f args pos} (h : EvalW C k env f (fun v H₁ => ∃ u, v = .con u ∧ Plainly C u ∧ ArgsW C k env args (fun vs H₂ => CallW C k u vs Q R H₂) R ρ H₁) R ρ H)
    (he : eval (.Call f args [] pos) env = (do callWith pos (← eval f env) [] (backTo pos (starEach args env)) (backToKw pos (keywordEach [] env))) := by rfl)
    (hp : (starEach args env).any (·.1) = false := by rfl) : EvalW C k env (.Call f args [] pos) Q R ρ H := fun A a s S => by
  refine Call_ (wp_go (h A a s S) fun x v H₁ s₁ h₁ S₁ r₁ E₁ => ?_) he
  obtain ⟨u, rfl, pl, h₁⟩ := h₁
  have hx : x = u := by cases r₁; rfl
  subst hx
  refine pl A _ _ s₁ [] pos _ (backTo_plain hp) (wp_go (h₁ A a s₁ (S.ext S₁ E₁) pos) (fun xs vs H₂ s₂ h₂ S₂ r₂ E₂ => ⟨S₂.keep, ?_⟩) fun _ _ p => p.after E₁)
  exact wp_fin (E₁.trans E₂) (h₂ A a s₂ xs S₂ r₂)

/-- the usual form: a global name is called -/
theorem EvalW.callName {x p args pos f} (g : GlobalV C x (.con f)) (pl : Plainly C f) (hk : env.kindOf x = some .globalImplicit) (h : ArgsW C k env args (fun vs H₂ => CallW C k f vs Q R H₂) R ρ H)
    (hd : (x == ("__debug__" : Str)) = false := by decide) (hp : (starEach args env).any (·.1) = false := by rfl) : EvalW C k env (.Call (.Name x p) args [] pos) Q R ρ H :=
  EvalW.call (EvalW.global g ⟨f, rfl, pl, h⟩ hk hd) rfl hp

/-- the method that a value has -/
def MethIs (C : Cx) (H : Hp) (v : V) (name : Str) (f : Value) : Prop :=
  ∀ (A : Around) (s : Shared) (x : Value) (pl : Sem Bool) (Q : Value × List Value → Shared → Prop) (E : Value → Shared → Prop), Sim C H s → VRel s.heap H v x → Q (f, [x]) s → wpAny C.M A (getMethod x name pl) Q E s

theorem EvalW.method {o name apos args pos pl} (h : EvalW C k env o (fun v H₁ => ∃ f, MethIs C H₁ v name f ∧ Plainly C f ∧ ArgsW C k env args (fun vs H₂ => CallW C k f (v :: vs) Q R H₂) R ρ H₁) R ρ H)
    (he : eval (.Call (.Attribute o name apos) args [] pos) env = (do
      let ov ← eval o env
      standAt apos.atName
      let (f, first) ← holding [ov] (getMethod ov name pl)
      callWith pos f first (backTo pos (starEach args env)) []) := by rfl)
    (hp : (starEach args env).any (·.1) = false := by rfl) : EvalW C k env (.Call (.Attribute o name apos) args [] pos) Q R ρ H := fun A a s S => by
  refine MethodCall_ (pl := pl) (wp_go (h A a s S) fun x v H₁ s₁ h₁ S₁ r₁ E₁ => ?_) he
  obtain ⟨f, hm, hpl, h₁⟩ := h₁
  refine hm A s₁ x _ _ _ S₁ r₁ ?_
  refine hpl A _ _ s₁ [x] pos _ (backTo_plain hp) (wp_go (h₁ A a s₁ (S.ext S₁ E₁) pos) (fun xs vs H₂ s₂ h₂ S₂ r₂ E₂ => ⟨S₂.keep, ?_⟩) fun _ _ p => p.after E₁)
  exact wp_fin (E₁.trans E₂) (h₂ A a s₂ (x :: xs) S₂ (.cons (r₁.ext E₂) r₂))

/-- a tuple display; a list display -/
theorem EvalW.tuple {es n p} (h : ArgsW C k env es (fun vs H₁ => Q (.tup vs) H₁ ∧ vs.length ≤ 1000) R ρ H) : EvalW C k env (.Tuple es n p) Q R ρ H := fun A a s S => by
  refine Tuple_ (wp_go (h A a s S p) fun xs vs H₁ s₁ h₁ S₁ r₁ E₁ => ?_)
  have e1 : xs.length = vs.length := r₁.length
  have hk : ∀ b o, s₁.heap.get? b = some o → (s₁.heap.push { cls := .type "tuple", data := .seq xs.toArray }).get? b = some o := fun b o e => Heap.get?_push_of_some _ e
  refine wpAny_newObj_type (?_) (by show xs.toArray.size ≤ sizeLine; rw [List.size_toArray, e1]; exact Nat.le_trans h₁.2 (by decide))
  refine ⟨.tup vs, H₁, h₁.1, S₁.grown (s' := { s₁ with heap := s₁.heap.push _ }) hk rfl rfl, .tup ⟨_, Heap.get?_push_size _ rfl, rfl, _, rfl⟩ (S₁.fresh (Nat.le_refl _)) (r₁.ext (Ext.grown hk)), E₁.trans (Ext.grown hk)⟩

/-- a new owned object -/
theorem Sim.alloc {C : Cx} {H : Hp} {s s' : Shared} {o : O} (S : Sim C H s) (hk : ∀ a o, s.heap.get? a = some o → s'.heap.get? a = some o) (hg : s'.gens = s.gens) (ho : s'.os = s.os)
    (hr : ORel C s'.heap (H.set s.heap.objs.size o) s.heap.objs.size o) : Sim C (H.set s.heap.objs.size o) s' ∧ Ext H s.heap (H.set s.heap.objs.size o) s'.heap := by
  have E : Ext H s.heap (H.set s.heap.objs.size o) s'.heap := by
    refine ⟨fun a ob e _ => .of (hk a ob e), fun a ob e n => ?_, fun a ob e => ⟨ob, hk a ob e⟩⟩
    unfold Hp.set
    rw [if_neg (Nat.ne_of_lt (Heap.lt_size e))]; exact n
  refine ⟨⟨fun a o e => hk a o (S.keep a o e), hg.trans S.gens, ho.trans S.os, fun a o' e => ?_, fun a e => ?_, S.frs.keep fun L o _ _ e n _ => ⟨E.grow L o e n, hk L o e⟩⟩, E⟩
  · unfold Hp.set at e
    split at e
    · rename_i q; subst q; cases e; exact hr
    · have r := S.objs a o' e
      obtain ⟨ob', e'⟩ := r.lt
      exact r.same E.v ((hk a ob' e').trans e'.symm)
  · unfold Hp.set at e
    split at e
    · rename_i q; subst q; exact ⟨S.freshB (Nat.le_refl _), S.freshS (Nat.le_refl _)⟩
    · exact S.new a e

theorem newList_W {A : Around} {xs : List Value} {vs : List V} {s : Shared} {E : Value → Shared → Prop} {P : Value → Shared → Prop} (S : Sim C H s) (r : VRelL s.heap H vs xs) (hn : vs.length ≤ 1000)
    (h : ∀ a s', H a = none → Sim C (H.set a (.list vs)) s' → Ext H s.heap (H.set a (.list vs)) s'.heap → P (.ref a) s') : wpAny C.M A (newList xs) P E s := by
  have e1 : xs.length = vs.length := r.length
  have hk : ∀ b o, s.heap.get? b = some o → (s.heap.push { cls := .type "list", data := .seq xs.toArray }).get? b = some o := fun b o e => Heap.get?_push_of_some _ e
  refine wpAny_newObj_type (?_) (by show xs.toArray.size ≤ sizeLine; rw [List.size_toArray, e1]; exact Nat.le_trans hn (by decide))
  have E0 : Ext H s.heap (H.set s.heap.objs.size (.list vs)) (s.heap.push { cls := .type "list", data := .seq xs.toArray }) :=
    ⟨fun a ob e _ => .of (hk a ob e), fun a ob e n => by unfold Hp.set; rw [if_neg (Nat.ne_of_lt (Heap.lt_size e))]; exact n, fun a ob e => ⟨ob, hk a ob e⟩⟩
  obtain ⟨S', E'⟩ := S.alloc (s' := { s with heap := s.heap.push { cls := .type "list", data := .seq xs.toArray } }) hk rfl rfl (o := .list vs) ⟨xs.toArray, ⟨_, Heap.get?_push_size _ rfl⟩, by simpa using r.ext E0⟩
  exact h _ _ (S.fresh (Nat.le_refl _)) S' E'
theorem EvalW.list {es p} (h : ArgsW C k env es (fun vs H₁ => vs.length ≤ 1000 ∧ ∀ a, H₁ a = Option.none → Q (.ref a) (H₁.set a (.list vs))) R ρ H) : EvalW C k env (.List es p) Q R ρ H := fun A a s S =>
  List_ (wp_go (h A a s S p) fun xs vs H₁ s₁ h₁ S₁ r₁ E₁ => newList_W S₁ r₁ h₁.1 fun b s' n S' E' => ⟨.ref b, _, h₁.2 b n, S', .ref b, E₁.trans E'⟩)
/-- a list display that nobody will change -/
theorem EvalW.list_fz {es p} (h : ArgsW C k env es (fun vs H₁ => vs.length ≤ 1000 ∧ Q (.lst vs) H₁) R ρ H) : EvalW C k env (.List es p) Q R ρ H := fun A a s S => by
  refine List_ (wp_go (h A a s S p) fun xs vs H₁ s₁ h₁ S₁ r₁ E₁ => ?_)
  have e1 : xs.length = vs.length := r₁.length
  have hk : ∀ b o, s₁.heap.get? b = some o → (s₁.heap.push { cls := .type "list", data := .seq xs.toArray }).get? b = some o := fun b o e => Heap.get?_push_of_some _ e
  refine wpAny_newObj_type (?_) (by show xs.toArray.size ≤ sizeLine; rw [List.size_toArray, e1]; exact Nat.le_trans h₁.1 (by decide))
  refine ⟨.lst vs, H₁, h₁.2, S₁.grown (s' := { s₁ with heap := s₁.heap.push _ }) hk rfl rfl, .lst ⟨_, Heap.get?_push_size _ rfl, rfl, _, rfl⟩ (S₁.fresh (Nat.le_refl _)) (r₁.ext (Ext.grown hk)), E₁.trans (Ext.grown hk)⟩

end Mine

set_option Elab.async false
set_option linter.unusedVariables false
namespace Mine
open PySem PyProof.Rows

/-- all but name tables and cells stays -/
def ExtW (H : Hp) (h : Heap) (H' : Hp) (h' : Heap) : Prop :=
  ∀ a o, h.get? a = some o → H a = none → (∀ es n, o.data ≠ .dict es n) → (∀ v, o.data ≠ .cell v) → h'.get? a = some o ∧ H' a = none
theorem Ext.w {H h H' h'} (E : Ext H h H' h') : ExtW H h H' h' := fun a o e n d _ => ⟨(E.keep a o e n).exact d, E.grow a o e n⟩
theorem ExtW.trans {H h H' h' H'' h''} (x : ExtW H h H' h') (y : ExtW H' h' H'' h'') : ExtW H h H'' h'' :=
  fun a o e n d c => let ⟨e1, n1⟩ := x a o e n d c; y a o e1 n1 d c
theorem ExtW.v {H h H' h'} (E : ExtW H h H' h') : ExtV H h H' h' := fun a o xs m e d n => let ⟨x, y⟩ := E a o e n (fun _ _ q => by rw [d] at q; cases q) (fun _ q => by rw [d] at q; cases q); ⟨.of x, y⟩
theorem ExtF.w {C : Cx} {env : Env} {ρ : Rho} {H H' : Hp} {s : Shared} {h' : Heap} (S : SimL C env ρ H s) (E : ExtF env H s.heap H' h') : ExtW H s.heap H' h' := fun a o e n d c => by
  obtain ⟨m, cm, F, _⟩ := S.frm
  refine ⟨(E.keep a o e n (fun q => ?_) (fun x q => ?_)).exact d, E.grow a o e n⟩
  · subst q; obtain ⟨oL, es, ep, eL, dL, _⟩ := F.ns; rw [eL] at e; cases e; exact d _ _ dL
  · obtain ⟨oc, ec, dc⟩ := F.cell x a q; rw [ec] at e; cases e; exact c _ dc

/-- records (iterators) were moved on, new objects may have come -/
structure Moved (wr : List Addr) (s s' : Shared) : Prop where
  keep : ∀ b o, b ∉ wr → s.heap.get? b = some o → s'.heap.get? b = some o
  gens : s'.gens = s.gens
  os : s'.os = s.os

structure Tmp (C : Cx) (H : Hp) (wr : List Addr) (h : Heap) : Prop where
  fld : ∀ b ∈ wr, ∃ o fs, h.get? b = some o ∧ o.data = .fields fs
  own : ∀ b ∈ wr, H b = none
  new : ∀ b ∈ wr, C.base.get? b = none

theorem Moved.extV {C H wr s s'} (T : Tmp C H wr s.heap) (M : Moved wr s s') : ExtV H s.heap H s'.heap := fun a o xs n e d m =>
  ⟨.of (M.keep a o (fun q => by obtain ⟨o', fs, e', d'⟩ := T.fld a q; rw [e'] at e; cases e; rw [d'] at d; cases d) e), m⟩
theorem Sim.moved {C H wr s s'} (S : Sim C H s) (T : Tmp C H wr s.heap) (M : Moved wr s s') : Sim C H s' := by
  refine ⟨fun a o e => M.keep a o (fun q => ?_) (S.keep a o e), M.gens.trans S.gens, M.os.trans S.os, fun a o e => ?_, S.new, S.frs.keep fun L o _ _ e n d => ⟨n, M.keep L o (fun q => by obtain ⟨o', fs, e', d'⟩ := T.fld L q; rw [e'] at e; cases e; rw [d'] at d; cases d) e⟩⟩
  · rw [T.new a q] at e; cases e
  · have r := S.objs a o e
    obtain ⟨ob', e'⟩ := r.lt
    exact r.same (M.extV T) ((M.keep a ob' (fun q => by rw [T.own a q] at e; cases e) e').trans e'.symm)
theorem SimL.moved {C env ρ H wr s s'} (S : SimL C env ρ H s) (T : Tmp C H wr s.heap) (M : Moved wr s s') : SimL C env ρ H s' := by
  obtain ⟨m, cm, F, r⟩ := S.frm
  refine ⟨S.sim.moved T M, S.kind, S.globals, S.builtins, m, cm, ⟨?_, fun n c e => ?_, F.own, F.ownc, F.above, F.abovec, F.apart⟩, fun x v e => (r x v e).extV (M.extV T)⟩
  · obtain ⟨oL, es, ep, eL, dL, rL⟩ := F.ns
    exact ⟨oL, es, ep, M.keep _ _ (fun q => by obtain ⟨o', fs, e', d'⟩ := T.fld _ q; rw [e'] at eL; cases eL; rw [d'] at dL; cases dL) eL, dL, rL⟩
  · obtain ⟨oc, ec, dc⟩ := F.cell n c e
    exact ⟨oc, M.keep _ _ (fun q => by obtain ⟨o', fs, e', d'⟩ := T.fld _ q; rw [e'] at ec; cases ec; rw [d'] at dc; cases dc) ec, dc⟩
theorem ExtF.moved {env H h₀ H₁ wr s s'} (E : ExtF env H h₀ H₁ s.heap) (M : Moved wr s s') (hn : ∀ b ∈ wr, h₀.get? b = none) : ExtF env H h₀ H₁ s'.heap := by
  have hb : ∀ a o, h₀.get? a = some o → a ∉ wr := fun a o e q => by rw [hn a q] at e; cases e
  exact ⟨fun a o e n n1 n2 => (E.keep a o e n n1 n2).trans fun o' e' => .of (M.keep a o' (hb a o e) e'), E.grow, fun a o e => let ⟨o', e'⟩ := E.live a o e; ⟨o', M.keep a o' (hb a o e) e'⟩⟩
theorem Ext.moved {H h₀ H₁ wr s s'} (E : Ext H h₀ H₁ s.heap) (M : Moved wr s s') (hn : ∀ b ∈ wr, h₀.get? b = none) : Ext H h₀ H₁ s'.heap := by
  have hb : ∀ a o, h₀.get? a = some o → a ∉ wr := fun a o e q => by rw [hn a q] at e; cases e
  exact ⟨fun a o e n => (E.keep a o e n).trans fun o' e' => .of (M.keep a o' (hb a o e) e'), E.grow, fun a o e => let ⟨o', e'⟩ := E.live a o e; ⟨o', M.keep a o' (hb a o e) e'⟩⟩
/-- an iterator that yields the items, one by one -/
def IsTupleE (tup : Bool) (target : Expr) : Prop := tup = true → ∃ es n p, target = .Tuple es n p

structure ItrOK (C : Cx) (tup : Bool) (I : Addr) (wr : List Addr) (St : List V → Hp → Heap → Prop) (cond : Hp → Prop) : Prop where
  tmp : ∀ r H h, St r H h → Tmp C H wr h
  next : ∀ A, A.units + 1 < cLine → ∀ s v r H (P : Option Value → Shared → Prop) (E : Value → Shared → Prop), Sim C H s → cond H → St (v :: r) H s.heap →
    (∀ x s', (∀ target, IsTupleE tup target → ∀ (P' : Unit → Shared → Prop), (∀ s'', VRel s''.heap H v x → St r H s''.heap → Moved wr s s'' → P' () s'') → wpAny C.M A (letOwnedTupleGo target (.ref I) x) P' E s') → P (some x) s') → wpAny C.M A (pyNext (.ref I)) P E s
  done : ∀ A s H (P : Option Value → Shared → Prop) (E : Value → Shared → Prop), A.handled = none → A.units + 1 < cLine → Sim C H s → cond H → St [] H s.heap → (∀ s', Moved wr s s' → P none s') → wpAny C.M A (pyNext (.ref I)) P E s
  self : ∀ A s r H (P : Value → Shared → Prop) (E : Value → Shared → Prop), St r H s.heap → P (.ref I) s → wpAny C.M A (pyIter (.ref I)) P E s
  frame : ∀ r H h H' h', St r H h → ExtW H h H' h' → cond H' → St r H' h'

def AssignW (C : Cx) (k : Nat) (env : Env) (target : Expr) (v : V) (Q : Rho → Prop) (ρ : Rho) (H : Hp) : Prop :=
  ∀ A, Lv C k A → ∀ s x, SimL C env ρ H s → VRel s.heap H v x → ∀ (P : Unit → Shared → Prop) E, (∀ ρ' s', Q ρ' → SimL C env ρ' H s' → ExtF env H s.heap H s'.heap → P () s') → wpAny C.M A (assign target env x) P E s

variable {C : Cx} {k : Nat} {env : Env} {ρ : Rho} {H : Hp}

theorem AssignW.name {x p v} {Q : Rho → Prop} (hk : Storable env x) (h : Q (ρ.set x v)) : AssignW C k env (.Name x p) v Q ρ H := fun A a s u S r P E hP =>
  wpAny_assign_Name (store_W hk S r fun s' S' E' _ => hP _ s' h S' E')

/-- several names at once -/
inductive StA (env : Env) : List Expr → List Str → Prop
  | nil : StA env [] []
  | cons {x : Str} {p : Pos} {es : List Expr} {xs : List Str} (hx : Storable env x) (hr : StA env es xs) : StA env (.Name x p :: es) (x :: xs)
def setAll (ρ : Rho) : List Str → List V → Rho
  | x :: r, v :: t => setAll (ρ.set x v) r t
  | _, _ => ρ
theorem assignEach_length {es : List Expr} {xs : List Str} (h : StA env es xs) : (assignEach es env).length = xs.length ∧ (assignEach es env).findIdx? (·.1) = none := by
  induction h with
  | nil => exact ⟨rfl, rfl⟩
  | @cons x p es xs hx hr ih =>
    obtain ⟨a, b⟩ := ih
    refine ⟨by show (assignEach es env).length + 1 = _; rw [a]; rfl, ?_⟩
    show List.findIdx? (·.1) ((false, assign (.Name x p) env) :: assignEach es env) = none
    rw [List.findIdx?_cons, b]; rfl
theorem assignInOrder_W {A : Around} {E : Value → Shared → Prop} {P : Unit → Shared → Prop} {es : List Expr} {xs : List Str} (hst : StA env es xs) : ∀ (vs : List V) (us : List Value) (ρ : Rho) (s : Shared), vs.length = xs.length → SimL C env ρ H s → VRelL s.heap H vs us →
    (∀ s', SimL C env (setAll ρ xs vs) H s' → ExtF env H s.heap H s'.heap → P () s') → wpAny C.M A (assignInOrder ((assignEach es env).map (·.2)) us) P E s := by
  induction hst with
  | nil =>
    intro vs us ρ s hl S r h
    cases vs with
    | nil => cases r; exact wpAny_pure (h s S (ExtF.refl _ _ _))
    | cons v t => cases hl
  | @cons x p es xs hx hr ih =>
    intro vs us ρ s hl S r h
    cases r with
    | nil => cases hl
    | @cons v u vs us rv rl =>
      show wpAny C.M A (assignInOrder (assign (.Name x p) env :: (assignEach es env).map (·.2)) (u :: us)) P E s
      unfold assignInOrder
      refine wpAny_bind (wpAny_holding (wpAny_assign_Name (store_W hx S rv fun s' S' E' _ => ?_)))
      exact ih vs us (ρ.set x v) s' (by simpa using hl) S' (rl.extV (E'.w S).v) fun s'' S'' E'' => h s'' S'' (E'.trans E'')

theorem AssignW.tuple {es n p xs vs} {Q : Rho → Prop} (hst : StA env es xs) (hl : vs.length = xs.length) (hd : C.hd = true) (h : Q (setAll ρ xs vs)) : AssignW C k env (.Tuple es n p) (.tup vs) Q ρ H := fun A a s u S r P E hP => by
  cases r with
  | @tup ad l ys ha ho rl =>
    obtain ⟨l1, l2⟩ := assignEach_length hst
    have hz : ys.size = vs.length := by have := rl.length; simpa using this
    refine wpAny_assign_Tuple (a.handled hd) ha (l1.trans (hl.symm.trans hz.symm)) l2 fun h' he => ?_
    have hk : ∀ b o, s.heap.get? b = some o → h'.get? b = some o := fun b o e => he b o (Nat.ne_of_lt (Heap.lt_size e)) e
    have S1 : Sim C H { s with heap := h' } := S.sim.grown (s' := { s with heap := h' }) hk rfl rfl
    have SL : SimL C env ρ H { s with heap := h' } := S.ext S1 (Ext.grown hk)
    exact assignInOrder_W hst vs ys.toList ρ { s with heap := h' } hl SL (rl.ext (Ext.grown hk)) fun s' S' E' => hP _ s' h S' ((Ext.grown hk).toF.trans E')

end Mine

set_option Elab.async false
set_option linter.unusedVariables false
namespace Mine
open PySem PyProof.Rows

/-- an expression is evaluated and iterated over: K gets the items -/
def IterE (C : Cx) (k : Nat) (env : Env) (tup : Bool) (e : Expr) (K : List V → (Hp → Prop) → Hp → Prop) (R : V → Hp → Prop) (ρ : Rho) (H : Hp) : Prop :=
  ∀ A, Lv C k A → ∀ s, SimL C env ρ H s → ∀ (P : Value → Shared → Prop) (PE : Value → Shared → Prop), (∀ e s', Post C H s.heap VRel R e s' → PE e s') →
    (∀ I wr St items cond H₂ s₂, K items cond H₂ → ItrOK C tup I wr St cond → cond H₂ → St items H₂ s₂.heap → (∀ b ∈ wr, s.heap.get? b = none) → Sim C H₂ s₂ → Ext H s.heap H₂ s₂.heap → P (.ref I) s₂) →
    wpAny C.M A (eval e env) (fun x s₁ => wpAny C.M A (pyIter x) P PE s₁) PE s

variable {C : Cx} {k : Nat} {env : Env} {ρ : Rho} {H : Hp} {Q : Fl → Rho → Hp → Prop} {R : V → Rho → Hp → Prop} {RE : V → Hp → Prop}

/-- the loop itself -/
theorem for_core {target : Expr} {body : List Stmt} {I : Addr} {wr : List Addr} {St : List V → Hp → Heap → Prop} {cond : Hp → Prop} {tup : Bool} (IT : ItrOK C tup I wr St cond) (ht : IsTupleE tup target) (hd : C.hd = true) {A : Around} (lv : Lv C k A)
    (Inv : List V → Rho → Hp → Prop) (hc : ∀ r ρ H, Inv r ρ H → cond H)
    (step : ∀ v r ρ H, Inv (v :: r) ρ H → AssignW C k env target v (fun ρ' => ExecsW C k env body (fun fl ρ'' H'' => match fl with
      | .next => Inv r ρ'' H'' | .cont => Inv r ρ'' H'' | .brk => Q .next ρ'' H'' | .ret u => Q (.ret u) ρ'' H'') (fun _ _ _ => False) ρ' H) ρ H)
    (fin : ∀ ρ H, Inv [] ρ H → Q .next ρ H)
    {h₀ : Heap} {H₀ : Hp} (hn : ∀ b ∈ wr, h₀.get? b = none) {PE : Result → Shared → Prop}
    (hPE : ∀ f s', PostS C env H₀ h₀ Q f s' → PE (.ok f) s')
    (items : List V) (s : Shared) (S : SimL C env ρ H s) (E : ExtF env H₀ h₀ H s.heap) (st : St items H s.heap) (h0 : Inv items ρ H) :
    codeAny C.M A (.forLoop target (.ref I) body [] env) PE s := by
  have hu : A.units + 1 < cLine := by have := lv.units; omega
  refine codeAny_forLoop_any (fun n s' => ∃ r ρ H, n = r.length + 1 ∧ Inv r ρ H ∧ SimL C env ρ H s' ∧ ExtF env H₀ h₀ H s'.heap ∧ St r H s'.heap) ?_ (items.length + 1) ⟨items, ρ, H, rfl, h0, S, E, st⟩
  rintro n s ⟨r, ρ, H, rfl, hI, S, E, st⟩
  have T := IT.tmp _ _ _ st
  cases r with
  | nil =>
    refine IT.done A s H _ _ (lv.handled hd) hu S.sim (hc _ _ _ hI) st fun s' M => ?_
    refine wpAny_execs_nil (hPE _ _ ⟨.next, ρ, H, fin ρ H hI, trivial, S.moved T M, E.moved M hn⟩)
  | cons v r =>
    refine IT.next A hu s v r H _ _ S.sim (hc _ _ _ hI) st fun x s' hlet => ?_
    refine hlet target ht _ fun s'' rx'' st'' M'' => ?_
    have S'' := S.moved T M''
    have E'' := E.moved M'' hn
    refine step v r ρ H hI A lv s'' x S'' rx'' _ _ fun ρ' s₃ hb S₃ E₃ => ?_
    refine wpAny_mono (hb A lv s₃ S₃) ?_ ?_
    · rintro f s₄ ⟨fl, ρ₄, H₄, q, rf, S₄, E₄⟩
      have E' := E''.trans (E₃.trans E₄)
      have st₄ : ∀ (hI' : Inv r ρ₄ H₄), St r H₄ s₄.heap := fun hI' => IT.frame _ _ _ _ _ st'' ((E₃.trans E₄).w S'') (hc _ _ _ hI')
      cases fl <;> cases f <;> first | exact rf.elim | skip
      · exact ⟨r.length + 1, by simp, r, ρ₄, H₄, rfl, q, S₄, E', st₄ q⟩
      · exact hPE _ _ ⟨.next, ρ₄, H₄, q, trivial, S₄, E'⟩
      · exact ⟨r.length + 1, by simp, r, ρ₄, H₄, rfl, q, S₄, E', st₄ q⟩
      · exact hPE _ _ ⟨.ret _, ρ₄, H₄, q, rf, S₄, E'⟩
    · rintro e s₄ ⟨_, _, _, q, _⟩; exact q.elim

/-- views -/
def lview (H : Hp) : V → Option (List V)
  | .lst l => some l
  | .ref a => match H a with
    | some (.list l) => some l
    | _ => none
  | _ => none
theorem lview_list {s : Shared} {v : V} {l : List V} {x : Value} (hl : lview H v = some l) (S : Sim C H s) (r : VRel s.heap H v x) : ∃ a xs, x = .ref a ∧ s.heap.IsList a xs ∧ VRelL s.heap H l xs.toList := by
  cases r with
  | lst ha ho rl => cases hl; exact ⟨_, _, rfl, ha, rl⟩
  | ref a =>
    simp only [lview] at hl
    split at hl
    · rename_i l' e
      cases hl
      obtain ⟨xs, h1, h2⟩ := S.objs _ _ e
      exact ⟨a, xs, rfl, h1.isList, h2⟩
    · cases hl
  | _ => cases hl

/-- the iterator over a list that stays as it is -/
def lcond (v : V) (l : List V) : Hp → Prop := fun H => lview H v = some l
theorem itr_list {tup : Bool} {v : V} {l : List V} {a : Addr} {I : Addr} (hv : v = .lst l ∨ v = .ref a) (hI : C.base.get? I = none) :
    ItrOK C tup I [I] (fun r H h => ∃ i, h.IsListIter I a i ∧ H I = none ∧ VRel h H v (.ref a) ∧ r = l.drop i ∧ i ≤ l.length) (lcond v l) where
  tmp := by
    rintro r H h ⟨i, ⟨o, e, c, d⟩, n, _⟩
    exact ⟨fun b hb => by simp at hb; subst hb; exact ⟨o, _, e, d⟩, fun b hb => by simp at hb; subst hb; exact n, fun b hb => by simp at hb; subst hb; exact hI⟩
  next := by
    rintro A hu1 s u r H P E S hc ⟨i, hit, n, rv, hr, hi⟩ hP
    obtain ⟨a', xs, ea, hl, rl⟩ := lview_list hc S rv
    cases ea
    have hu : l[i]? = some u := by
      have := congrArg List.head? hr
      simpa [List.head?_drop] using this.symm
    have hlt : i < l.length := (List.getElem?_eq_some_iff.mp hu).1
    have hrest : r = l.drop (i + 1) := by
      have := congrArg List.tail hr
      simpa [List.tail_drop] using this
    obtain ⟨x, ex, rx⟩ := rl.get hu
    have haI : a ≠ I := fun q => by
      subst q
      obtain ⟨o, e, c, _⟩ := hit
      obtain ⟨o', e', c', _⟩ := hl
      rw [e] at e'; cases e'; rw [c] at c'; exact absurd c' (by decide)
    refine wpAny_pyNext_list_item hit hl (by simpa using ex) fun h' hit' hs => ?_
    have M : Moved [I] s { s with heap := h' } := ⟨fun b o hb e => hs.extBut b o (fun q => hb (by simp [q])) e, rfl, rfl⟩
    · have T : Tmp C H [I] s.heap := by
        obtain ⟨o, e, c, d⟩ := hit
        exact ⟨fun b hb => by simp at hb; subst hb; exact ⟨o, _, e, d⟩, fun b hb => by simp at hb; subst hb; exact n, fun b hb => by simp at hb; subst hb; exact hI⟩
      have V1 := M.extV T
      have st' : ∃ j, h'.IsListIter I a j ∧ H I = none ∧ VRel h' H v (.ref a) ∧ r = l.drop j ∧ j ≤ l.length := ⟨i + 1, hit', n, rv.extV V1, hrest, hlt⟩
      refine hP x _ fun target _ P' hP' => ?_
      have : wpAny C.M A (letOwnedTupleGo target (.ref I) x) P' E { s with heap := h' } := by
        have hend := hP' { s with heap := h' } (rx.extV V1) st' M
        unfold letOwnedTupleGo
        split
        · cases x <;> first | exact wpAny_pure hend | skip
          obtain ⟨o, e, c, d⟩ := hit'
          refine wpAny_bind (wpAny_load e ?_)
          rw [c, d]
          dsimp only
          rw [if_neg (by simp)]
          exact wpAny_pure hend
        · cases x <;> first | exact wpAny_pure hend | skip
          obtain ⟨o, e, c, d⟩ := hit'
          refine wpAny_bind (wpAny_load e ?_)
          rw [c, d]
          dsimp only
          rw [if_neg (by simp)]
          exact wpAny_pure hend
        · exact wpAny_pure hend
      exact this
  done := by
    rintro A s H P E hh hu S hc ⟨i, hit, n, rv, hr, hi⟩ hP
    obtain ⟨a', xs, ea, hl, rl⟩ := lview_list hc S rv
    cases ea
    have hlen : xs.size = l.length := by have := rl.length; simpa using this
    have hx : xs[i]? = none := by
      have : l.length ≤ i := by
        have := congrArg List.length hr
        simp at this; omega
      simp; omega
    refine wpAny_pyNext_list_end hh hit hl hx fun h' he => ?_
    exact hP _ ⟨fun b o hb e => he b o (fun q => hb (by simp [q])) e, rfl, rfl⟩
  self := by
    rintro A s r H P E ⟨i, hit, _⟩ hP
    exact wpAny_pyIter_listiter hit hP
  frame := by
    rintro r H h H' h' ⟨i, ⟨o, e, c, d⟩, n, rv, hr, hi⟩ E hc
    have := E I o e n (fun _ _ q => by rw [d] at q; cases q) (fun _ q => by rw [d] at q; cases q)
    exact ⟨i, ⟨o, this.1, c, d⟩, this.2, rv.extV E.v, hr, hi⟩

end Mine

set_option Elab.async false
set_option linter.unusedVariables false
namespace Mine
open PySem PyProof.Rows

variable {C : Cx} {k : Nat} {env : Env} {ρ : Rho} {H : Hp} {R : V → Hp → Prop}

theorem Ext.new_none {H h H' h' a} (E : Ext H h H' h') (ha : h'.objs.size ≤ a) : h.get? a = none := by
  cases e : h.get? a with
  | none => rfl
  | some o => obtain ⟨o', e'⟩ := E.live a o e; exact absurd (Heap.lt_size e') (Nat.not_lt.mpr ha)

def rangeV (n : Nat) : List V := (List.range n).map fun i => V.int (i : Nat)
theorem ints_get {n i : Nat} (h : i < n) : (rangeV n)[i]? = some (.int (i : Nat)) := by simp [rangeV, h]
theorem ints_length {n : Nat} : (rangeV n).length = n := by simp [rangeV]

theorem tmp_one {I : Addr} {h : Heap} {o : Obj} {fs} (e : h.get? I = some o) (d : o.data = .fields fs) (n : H I = none) (hI : C.base.get? I = none) : Tmp C H [I] h :=
  ⟨fun b hb => by simp at hb; subst hb; exact ⟨o, _, e, d⟩, fun b hb => by simp at hb; subst hb; exact n, fun b hb => by simp at hb; subst hb; exact hI⟩

/-- letting go: nothing to do where the iterator is none of the owned-tuple kinds -/
theorem letGo_plain {M : Model} {A : Around} {E : Value → Shared → Prop} {s : Shared} {target : Expr} {I : Addr} {x : Value} {P' : Unit → Shared → Prop} {o : Obj} {n : String} {fs} (e : s.heap.get? I = some o) (c : o.cls = .type n) (d : o.data = .fields fs)
    (hn : (["enumerate", "zip", "dict_itemiterator", "dict_reverseitemiterator", "odict_iterator", "itertools.zip_longest", "itertools.pairwise"].contains n) = false) (h : P' () s) : wpAny M A (letOwnedTupleGo target (.ref I) x) P' E s := by
  unfold letOwnedTupleGo
  split
  · cases x <;> first | exact wpAny_pure h | skip
    refine wpAny_bind (wpAny_load e ?_)
    rw [c, d]; dsimp only
    rw [if_neg (by rw [hn]; simp)]
    exact wpAny_pure h
  · cases x <;> first | exact wpAny_pure h | skip
    refine wpAny_bind (wpAny_load e ?_)
    rw [c, d]; dsimp only
    rw [if_neg (by rw [hn]; simp)]
    exact wpAny_pure h
  · exact wpAny_pure h

theorem itr_range {tup : Bool} {N : Nat} {I : Addr} (hI : C.base.get? I = none) :
    ItrOK C tup I [I] (fun r H h => ∃ j : Nat, j ≤ N ∧ IsRangeIter h I (j : Int) ((N : Int) - (j : Int)) 1 ∧ H I = none ∧ r = (rangeV N).drop j) (fun _ => True) where
  tmp := by
    rintro r H h ⟨j, hj, e, n, _⟩
    exact tmp_one e rfl n hI
  next := by
    rintro A hu1 s u r H P E S hc ⟨j, hj, hit, n, hr⟩ hP
    have hu : (rangeV N)[j]? = some u := by
      have := congrArg List.head? hr
      simpa [List.head?_drop] using this.symm
    have hlt : j < N := by have := (List.getElem?_eq_some_iff.mp hu).1; rwa [ints_length] at this
    rw [ints_get hlt] at hu; cases hu
    have hrest : r = (rangeV N).drop (j + 1) := by
      have := congrArg List.tail hr
      simpa [List.tail_drop] using this
    refine wpAny_pyNext_range_item hit (by omega) fun h' hit' hs => ?_
    have M : Moved [I] s { s with heap := h', toks := s.toks + 1 } := ⟨fun b o hb e => hs.extBut b o (fun q => hb (by simp [q])) e, rfl, rfl⟩
    have st' : ∃ j : Nat, j ≤ N ∧ IsRangeIter h' I (j : Int) ((N : Int) - (j : Int)) 1 ∧ H I = none ∧ r = (rangeV N).drop j := by
      refine ⟨j + 1, hlt, ?_, n, hrest⟩
      have e1 : (((j + 1 : Nat)) : Int) = (j : Int) + 1 := by push_cast; rfl
      have e2 : (N : Int) - ((j + 1 : Nat) : Int) = (N : Int) - (j : Int) - 1 := by push_cast; omega
      rw [e2, e1]; exact hit'
    refine hP _ _ fun target _ P' hP' => ?_
    exact letGo_plain hit' rfl rfl (by decide) (hP' { s with heap := h', toks := s.toks + 1 } (.int _ _) st' M)
  done := by
    rintro A s H P E hh hu S hc ⟨j, hj, hit, n, hr⟩ hP
    have hle : N ≤ j := by
      have := congrArg List.length hr
      simp [ints_length] at this; omega
    refine wpAny_pyNext_range_end hh hit (by omega) fun h' he => ?_
    exact hP _ ⟨fun b o hb e => he b o (fun q => hb (by simp [q])) e, rfl, rfl⟩
  self := by
    rintro A s r H P E ⟨j, hj, hit, _⟩ hP
    exact wpAny_pyIter_rangeiter hit hP
  frame := by
    rintro r H h H' h' ⟨j, hj, hit, n, hr⟩ E hc
    have := E I _ hit n (fun _ _ q => by cases q) (fun _ q => by cases q)
    exact ⟨j, hj, this.1, this.2, hr⟩

/-- range(n) -/
theorem IterE.range {tup : Bool} {x p e pos} {K : List V → (Hp → Prop) → Hp → Prop} (g : GlobalV C x (.con (.type "range"))) (hk : env.kindOf x = some .globalImplicit)
    (h : EvalW C k env e (fun v H₁ => ∃ n : Int, v = .int n ∧ n < 2 ^ 62 ∧ -(2 ^ 62) ≤ n ∧ K (rangeV n.toNat) (fun _ => True) H₁) R ρ H)
    (he : starEach [e] env = [(false, eval e env)] := by rfl) (hd : (x == ("__debug__" : Str)) = false := by decide) :
    IterE C k env tup (.Call (.Name x p) [e] [] pos) K R ρ H := fun A a s S P PE hPE hP => by
  have G := EvalW.global (k := k) (env := env) (ρ := ρ) (H := H) (R := R) (p := p) (Q := fun v H' => v = .con (.type "range") ∧ H' = H) g ⟨rfl, rfl⟩ hk hd
  refine wpAny_Call_NameR (wp_go (G A a s S) (fun f v H₁ s₁ hv S₁ r₁ E₁ => ?_) hPE)
  obtain ⟨rfl, rfl⟩ := hv
  have hf : f = .type "range" := by cases r₁; rfl
  subst hf
  rw [he]
  refine PySem.callWith_type rfl (Calls.evalArgs_plain (Calls.spliced_cons (wp_go (h A a s₁ (S.ext S₁ E₁)) (fun nv v H₂ s₂ hv S₂ r₂ E₂ => Calls.spliced_nil ?_) fun _ _ p => hPE _ _ (p.after E₁))))
  obtain ⟨n, rfl, hn1, hn2, hK⟩ := hv
  cases r₂ with
  | int _ t =>
    refine call_range_1 ?_
    refine wpAny_pyIter_range (IsRange.new ..) (small_one (by decide) (by decide) hn2 hn1) ?_
    have hsz : Builtin.Range.rangeSize 0 n 1 = (n.toNat : Int) := by rw [rangeSize_one]; split <;> omega
    have hk2 : ∀ b o, s₂.heap.get? b = some o → ((s₂.heap.push { cls := .type "range", data := .fields #[.int 0 s₂.toks, .int n t, .int 1 (s₂.toks + 1)] }).push { cls := .type "range_iterator", data := .fields #[rawInt 0, rawInt (Builtin.Range.rangeSize 0 n 1), rawInt 1] }).get? b = some o :=
      fun b o e => Heap.get?_push_of_some _ (Heap.get?_push_of_some _ e)
    have hI : s₂.heap.objs.size ≤ (s₂.heap.push { cls := .type "range", data := .fields #[.int 0 s₂.toks, .int n t, .int 1 (s₂.toks + 1)] }).objs.size := by rw [Heap.size_push]; omega
    refine hP _ [_] _ _ _ _ _ hK (itr_range (N := n.toNat) (S₂.freshB hI)) trivial ⟨0, Nat.zero_le _, ?_, S₂.fresh hI, rfl⟩ ?_ (S₂.grown hk2 rfl rfl) ((E₁.trans E₂).trans (Ext.grown hk2))
    · have e2 : ((n.toNat : Int) - ((0 : Nat) : Int)) = Builtin.Range.rangeSize 0 n 1 := by rw [hsz]; simp
      rw [e2]
      exact Heap.get?_push_size _ rfl
    · intro b hb
      simp at hb; subst hb
      exact (E₁.trans E₂).new_none (by omega)

/-- a list, frozen or owned -/
theorem IterE.list {tup : Bool} {e} {K : List V → (Hp → Prop) → Hp → Prop} (h : EvalW C k env e (fun v H₁ => ∃ l, lview H₁ v = some l ∧ K l (lcond v l) H₁) R ρ H) : IterE C k env tup e K R ρ H := fun A a s S P PE hPE hP => by
  refine wp_go (h A a s S) (fun x v H₁ s₁ hv S₁ r₁ E₁ => ?_) hPE
  obtain ⟨l, hl, hK⟩ := hv
  obtain ⟨ad, xs, rfl, hL, rl⟩ := lview_list hl S₁ r₁
  have hvv : v = .lst l ∨ v = .ref ad := by
    cases r₁ with
    | lst ha ho rl => cases hl; exact .inl rfl
    | ref a => exact .inr rfl
    | _ => cases hl
  have hk : ∀ b o, s₁.heap.get? b = some o → (s₁.heap.push { cls := .type "list_iterator", data := .fields #[.ref ad, .int 0 0] }).get? b = some o := fun b o e => Heap.get?_push_of_some _ e
  refine wpAny_pyIter_list hL ?_
  refine hP _ [_] _ _ _ _ _ hK (itr_list (a := ad) hvv (S₁.freshB (Nat.le_refl _))) hl ⟨0, ⟨_, Heap.get?_push_size _ rfl, rfl, rfl⟩, S₁.fresh (Nat.le_refl _), r₁.ext (Ext.grown hk), rfl, Nat.zero_le _⟩ ?_ (S₁.grown hk rfl rfl) (E₁.trans (Ext.grown hk))
  intro b hb; simp at hb; subst hb; exact E₁.new_none (Nat.le_refl _)

end Mine

set_option Elab.async false
set_option linter.unusedVariables false
namespace Mine
open PySem PyProof.Rows

variable {C : Cx} {k : Nat} {env : Env} {ρ : Rho} {H : Hp} {R : V → Hp → Prop}

def enumFrom (n : Nat) : List V → List V
  | [] => []
  | v :: r => .tup [.int (n : Nat), v] :: enumFrom (n + 1) r
def enumV (l : List V) : List V := enumFrom 0 l
theorem enumFrom_get {l : List V} : ∀ {n i : Nat}, (enumFrom n l)[i]? = (l[i]?).map fun v => V.tup [.int ((n + i : Nat) : Int), v] := by
  induction l with
  | nil => intro n i; simp [enumFrom]
  | cons v r ih =>
    intro n i
    cases i with
    | zero => simp [enumFrom]
    | succ i => simp only [enumFrom, List.getElem?_cons_succ, ih]; congr 2; funext v; congr 4; omega
theorem enumFrom_length {l : List V} : ∀ {n : Nat}, (enumFrom n l).length = l.length := by
  induction l with
  | nil => intro n; rfl
  | cons v r ih => intro n; simp [enumFrom, ih]

theorem itr_enum {v : V} {l : List V} {a e it : Addr} (hne : e ≠ it) (he0 : C.base.get? e = none) (hi0 : C.base.get? it = none) :
    ItrOK C true e [e, it] (fun r H h => ∃ (i : Nat) (old : Value), IsEnum h e it i old ∧ h.IsListIter it a i ∧ H e = none ∧ H it = none ∧ VRel h H v (.ref a) ∧ r = (enumV l).drop i ∧ i ≤ l.length) (lcond v l) where
  tmp := by
    rintro r H h ⟨i, old, e1, ⟨o, e2, c2, d2⟩, n1, n2, _⟩
    refine ⟨fun b hb => ?_, fun b hb => ?_, fun b hb => ?_⟩
    · simp at hb; rcases hb with rfl | rfl
      · exact ⟨_, _, e1, rfl⟩
      · exact ⟨o, _, e2, d2⟩
    · simp at hb; rcases hb with rfl | rfl <;> assumption
    · simp at hb; rcases hb with rfl | rfl <;> assumption
  next := by
    rintro A hu1 s u r H P E S hc ⟨i, old, he, hit, n1, n2, rv, hr, hi⟩ hP
    obtain ⟨a', xs, ea, hl, rl⟩ := lview_list hc S rv
    cases ea
    have hu : (enumV l)[i]? = some u := by
      have := congrArg List.head? hr
      simpa [List.head?_drop] using this.symm
    rw [enumV, enumFrom_get] at hu
    obtain ⟨w, hw, rfl⟩ := Option.map_eq_some_iff.mp hu
    have hlt : i < l.length := (List.getElem?_eq_some_iff.mp hw).1
    have hrest : r = (enumV l).drop (i + 1) := by
      have := congrArg List.tail hr
      simpa [List.tail_drop] using this
    obtain ⟨x, ex, rx⟩ := rl.get hw
    have T : Tmp C H [e, it] s.heap := by
      obtain ⟨o, e2, c2, d2⟩ := hit
      refine ⟨fun b hb => ?_, fun b hb => ?_, fun b hb => ?_⟩
      · simp at hb; rcases hb with rfl | rfl
        · exact ⟨_, _, he, rfl⟩
        · exact ⟨o, _, e2, d2⟩
      · simp at hb; rcases hb with rfl | rfl <;> assumption
      · simp at hb; rcases hb with rfl | rfl <;> assumption
    have heH : e < s.heap.objs.size := Heap.lt_size he
    refine wpAny_pyNext_enum_item he hit hl (by simpa using ex) hne fun h₁ heo hit₁ ht₁ hz₁ hk₁ => ?_
    have M : Moved [e, it] s { s with heap := h₁, toks := s.toks + 1 } := ⟨fun b o hb q => hk₁ b o (fun z => hb (by simp [z])) (fun z => hb (by simp [z])) q, rfl, rfl⟩
    have V1 := M.extV T
    have fr : H s.heap.objs.size = none := S.fresh (Nat.le_refl _)
    have rt : VRel h₁ H (.tup [.int ((0 + i : Nat) : Int), w]) (.ref s.heap.objs.size) := by
      rw [Nat.zero_add]
      exact .tup ⟨_, ht₁, rfl, _, rfl⟩ fr (.cons (.int _ _) (.cons (rx.extV V1) .nil))
    refine hP _ _ fun target ht P' hP' => ?_
    obtain ⟨es, n, p, rfl⟩ := ht rfl
    refine wpAny_letOwnedTupleGo_enum heo fun h₂ he₂ hs₂ => ?_
    replace hs₂ : Heap.SameBut e h₁ h₂ := hs₂
    have M2 : Moved [e, it] s { s with heap := h₂, toks := s.toks + 1 } := ⟨fun b o hb q => hs₂.extBut b o (fun z => hb (by simp [z])) (M.keep b o hb q), rfl, rfl⟩
    have V2 := M2.extV T
    refine hP' _ ?_ ⟨i + 1, x, he₂, ?_, n1, n2, rv.extV V2, hrest, hlt⟩ M2
    · rw [Nat.zero_add]
      exact .tup ⟨_, hs₂.extBut _ _ (Nat.ne_of_gt heH) ht₁, rfl, _, rfl⟩ fr (.cons (.int _ _) (.cons (rx.extV V2) .nil))
    · obtain ⟨o, q1, q2, q3⟩ := hit₁
      exact ⟨o, hs₂.extBut _ _ (Ne.symm hne) q1, q2, q3⟩
  done := by
    rintro A s H P E hh hu S hc ⟨i, old, he, hit, n1, n2, rv, hr, hi⟩ hP
    obtain ⟨a', xs, ea, hl, rl⟩ := lview_list hc S rv
    cases ea
    have hlen : xs.size = l.length := by have := rl.length; simpa using this
    have hx : xs[i]? = none := by
      have : l.length ≤ i := by
        have := congrArg List.length hr
        simp [enumV, enumFrom_length] at this; omega
      simp; omega
    refine wpAny_pyNext_enum_end hh he hit hl hx fun h' hx' => ?_
    exact hP _ ⟨fun b o hb q => hx' b o (fun z => hb (by simp [z])) q, rfl, rfl⟩
  self := by
    rintro A s r H P E ⟨i, old, he, hit, _⟩ hP
    exact wpAny_pyIter_enum he hP
  frame := by
    rintro r H h H' h' ⟨i, old, he, ⟨o, e2, c2, d2⟩, n1, n2, rv, hr, hi⟩ E hc
    have q1 := E e _ he n1 (fun _ _ q => by cases q) (fun _ q => by cases q)
    have q2 := E it o e2 n2 (fun _ _ q => by rw [d2] at q; cases q) (fun _ q => by rw [d2] at q; cases q)
    exact ⟨i, old, q1.1, ⟨o, q2.1, c2, d2⟩, q1.2, q2.2, rv.extV E.v, hr, hi⟩

/-- enumerate(xs), taken apart by a tuple of names -/
theorem IterE.enum {x p e pos} {K : List V → (Hp → Prop) → Hp → Prop} (g : GlobalV C x (.con (.type "enumerate"))) (hk : env.kindOf x = some .globalImplicit)
    (h : EvalW C k env e (fun v H₁ => ∃ l, lview H₁ v = some l ∧ K (enumV l) (lcond v l) H₁) R ρ H)
    (he : starEach [e] env = [(false, eval e env)] := by rfl) (hd : (x == ("__debug__" : Str)) = false := by decide) :
    IterE C k env true (.Call (.Name x p) [e] [] pos) K R ρ H := fun A a s S P PE hPE hP => by
  have G := EvalW.global (k := k) (env := env) (ρ := ρ) (H := H) (R := R) (p := p) (Q := fun v H' => v = .con (.type "enumerate") ∧ H' = H) g ⟨rfl, rfl⟩ hk hd
  refine wpAny_Call_NameR (wp_go (G A a s S) (fun f v H₁ s₁ hv S₁ r₁ E₁ => ?_) hPE)
  obtain ⟨rfl, rfl⟩ := hv
  have hf : f = .type "enumerate" := by cases r₁; rfl
  subst hf
  rw [he]
  refine PySem.callWith_type rfl (Calls.evalArgs_plain (Calls.spliced_cons (wp_go (h A a s₁ (S.ext S₁ E₁)) (fun y v H₂ s₂ hv S₂ r₂ E₂ => Calls.spliced_nil ?_) fun _ _ p => hPE _ _ (p.after E₁))))
  obtain ⟨l, hl, hK⟩ := hv
  obtain ⟨ad, xs, rfl, hL, rl⟩ := lview_list hl S₂ r₂
  refine call_enumerate_list hL fun h' he' hit' hz' hk' => ?_
  refine wpAny_pyIter_enum he' ?_
  have E3 : Ext H₂ s₂.heap H₂ h' := Ext.grown hk'
  refine hP _ _ _ _ _ _ _ hK (itr_enum (v := v) (l := l) (a := ad) (e := s₂.heap.objs.size + 1) (it := s₂.heap.objs.size) (Nat.succ_ne_self _) (S₂.freshB (by omega)) (S₂.freshB (Nat.le_refl _))) hl
    ⟨0, _, he', hit', S₂.fresh (by omega), S₂.fresh (Nat.le_refl _), r₂.ext E3, rfl, Nat.zero_le _⟩ ?_ (S₂.grown hk' rfl rfl) ((E₁.trans E₂).trans E3)
  intro b hb
  simp at hb
  rcases hb with rfl | rfl
  · exact (E₁.trans E₂).new_none (by omega)
  · exact (E₁.trans E₂).new_none (Nat.le_refl _)

end Mine

set_option Elab.async false
set_option linter.unusedVariables false
namespace Mine
open PySem PyProof.Rows

section
variable {prog : Program} {w : World} {A : Around} {R : Result → Shared → Prop} {s : Shared}
theorem compLoop_any {elt target iter : Expr} {ifs : List Expr} {scope : Scope} {pos : Pos} {it acc : Value} {env : Env} (I : Nat → Shared → Prop)
    (turn : ∀ n s, I n s → wpAny (model prog w) A (pyNext it) (fun r s₁ => match r with
      | none => R (.ok .next) s₁
      | some v => wpAny (model prog w) A (letOwnedTupleGo target it v) (fun _ s₁' => wpAny (model prog w) A (assign target env v) (fun _ s₂ =>
          wpAny (model prog w) A (forIn ifs true fun c r => if r = true then do let ok ← isTrue c env (eval c env); pure (ForInStep.yield ok) else pure (ForInStep.yield r)) (fun ok s₃ =>
            if ok = true then wpAny (model prog w) A (eval elt env) (fun x s₄ =>
              wpAny (model prog w) A (call (.builtin "list.append") [acc, x]) (fun _ s₅ => ∃ m, m < n ∧ I m s₅) (notedBy (model prog w) A env fun e s' => R (.error e) s') s₄) (notedBy (model prog w) A env fun e s' => R (.error e) s') s₃
            else ∃ m, m < n ∧ I m s₃) (notedBy (model prog w) A env fun e s' => R (.error e) s') s₂) (notedBy (model prog w) A env fun e s' => R (.error e) s') s₁') (notedBy (model prog w) A env fun e s' => R (.error e) s') s₁) (notedBy (model prog w) A env fun e s' => R (.error e) s') s)
    (n : Nat) (h : I n s) : codeAny (model prog w) A (.compLoop (.ListComp elt [⟨target, iter, ifs, 0⟩] scope pos) 0 it acc env) R s := by
  refine codeAny_loop rfl I (fun n s hI => ?_) n h
  show wpAny _ A ((compTurn (.ListComp elt [⟨target, iter, ifs, 0⟩] scope pos) 0 it acc env).onRaise (fun x => do noteFrame x env; theTreesLotGoes x)) _ _ s
  refine wpAny_noted ?_
  rw [compTurn_list]
  refine wpAny_bind (wpAny_standAt (wpAny_bind (wpAny_mono (turn n s hI) (fun r s₁ h₁ => ?_) fun _ _ h' => h')))
  cases r with
  | none => exact wpAny_pure h₁
  | some v =>
    refine wpAny_bind (wpAny_mono h₁ (fun _ s₁' h₁ => ?_) fun _ _ h' => h')
    refine wpAny_bind (wpAny_mono h₁ (fun _ s₂ h₂ => wpAny_bind (wpAny_mono h₂ (fun ok s₃ h₃ => ?_) fun _ _ h' => h')) fun _ _ h' => h')
    cases ok with
    | false => exact wpAny_pure ⟨rfl, h₃⟩
    | true =>
      exact wpAny_bind (wpAny_bind (wpAny_mono h₃ (fun x s₄ h₄ => wpAny_bind (wpAny_mono h₄ (fun _ s₅ h₅ => wpAny_pure (wpAny_pure ⟨rfl, h₅⟩)) fun _ _ h' => h')) fun _ _ h' => h'))
end

/-- the tests of a comprehension -/
def IfsW (C : Cx) (k : Nat) (env : Env) (ifs : List Expr) (Q : Bool → Hp → Prop) (R : V → Hp → Prop) (ρ : Rho) (H : Hp) : Prop :=
  ∀ A, Lv C k A → ∀ s, SimL C env ρ H s → wpAny C.M A (forIn ifs true fun c r => if r = true then do let ok ← isTrue c env (eval c env); pure (ForInStep.yield ok) else pure (ForInStep.yield r)) (Post C H s.heap BRel Q) (Post C H s.heap VRel R) s

variable {C : Cx} {k : Nat} {env : Env} {ρ : Rho} {H : Hp} {Q R : V → Hp → Prop} {QB : Bool → Hp → Prop}
theorem IfsW.nil (h : QB true H) : IfsW C k env [] QB R ρ H := fun A a s S => wpAny_tests_nil (Post.here h S.sim rfl rfl)
/-- the names that a comprehension sees -/
def Rho.hide (scope : Scope) (ρ : Rho) : Rho := fun y => if scope.names.lookup y = some .local then none else ρ y
def Rho.le (ρ ρ' : Rho) : Prop := ∀ y w, ρ y = some w → ρ' y = some w
theorem SimL.weaken {ρ' s} (S : SimL C env ρ' H s) (h : Rho.le ρ ρ') : SimL C env ρ H s :=
  let ⟨m, cm, F, r⟩ := S.frm; ⟨S.sim, S.kind, S.globals, S.builtins, m, cm, F, fun x v e => r x v (h x v e)⟩

/-- the cells that a comprehension closes over -/
def closL (cells : List (Str × Addr)) : List (Str × NameKind) → List (Str × Addr) → List (Str × Addr)
  | [], acc => acc
  | (n, kd) :: r, acc => if kd == .free then closL cells r ((n, (cells.lookup n).getD 0) :: acc) else closL cells r acc
theorem closureFor_eq {scope : Scope} (h : ∀ x ∈ scope.names, x.2 = .free → (env.cells.lookup x.1).isSome = true) : closureFor scope env = pure (closL env.cells scope.names []) := by
  have key : ∀ (names : List (Str × NameKind)) (acc : List (Str × Addr)), (∀ x ∈ names, x.2 = .free → (env.cells.lookup x.1).isSome = true) →
      (forIn names acc fun (x : Str × NameKind) r => match x with | (name, kind) => if (kind == .free) = true then do let a ← cellOf env name; pure (ForInStep.yield ((name, a) :: r)) else pure (ForInStep.yield r) : Sem (List (Str × Addr))) = pure (closL env.cells names acc) := by
    intro names
    induction names with
    | nil => intro acc _; rfl
    | cons x r ih =>
      obtain ⟨n, kd⟩ := x
      intro acc hx
      rw [List.forIn_cons]
      unfold closL
      by_cases hk : (kd == NameKind.free) = true
      · obtain ⟨c, hc⟩ := Option.isSome_iff_exists.mp (hx (n, kd) (.head _) (by simpa using hk))
        simp only [hk, if_true]
        have : cellOf env n = pure c := by unfold cellOf; rw [hc]
        rw [this, pure_bind, pure_bind]
        simp only [hc, Option.getD_some]
        exact ih _ fun y hy => hx y (.tail _ hy)
      · simp only [hk, if_false, Bool.false_eq_true]
        rw [pure_bind]
        exact ih _ fun y hy => hx y (.tail _ hy)
  have := key scope.names [] h
  unfold closureFor
  simp only [bind_pure]
  exact this
theorem closL_lookup (cells : List (Str × Addr)) : ∀ (names : List (Str × NameKind)) (acc : List (Str × Addr)) (x : Str) (c : Addr), (∀ y ∈ names, y.2 = .free → (cells.lookup y.1).isSome = true) → (∀ y c', acc.lookup y = some c' → cells.lookup y = some c') →
    (closL cells names acc).lookup x = some c → cells.lookup x = some c
  | [], acc, x, c, _, ha, e => ha x c e
  | (n, kd) :: r, acc, x, c, hn, ha, e => by
    unfold closL at e
    split at e
    · rename_i hk
      obtain ⟨c', hc'⟩ := Option.isSome_iff_exists.mp (hn (n, kd) (.head _) (by simpa using hk))
      refine closL_lookup cells r _ x c (fun y hy => hn y (.tail _ hy)) (fun y c'' ey => ?_) e
      rw [List.lookup_cons] at ey
      split at ey
      · rename_i hb; cases ey; rw [beq_iff_eq.mp hb, hc']; rfl
      · exact ha y c'' ey
    · exact closL_lookup cells r _ x c (fun y hy => hn y (.tail _ hy)) ha e
theorem closL_isSome (cells : List (Str × Addr)) : ∀ (names : List (Str × NameKind)) (acc : List (Str × Addr)) (x : Str), (names.lookup x = some .free ∨ (acc.lookup x).isSome = true) → ((closL cells names acc).lookup x).isSome = true
  | [], acc, x, h => by rcases h with h | h; · cases h
                        · exact h
  | (y, kd) :: r, acc, x, h => by
    unfold closL
    rw [List.lookup_cons] at h
    split
    · rename_i hk
      refine closL_isSome cells r _ x ?_
      rw [List.lookup_cons]
      by_cases q : (x == y) = true
      · rw [q]; exact .inr rfl
      · have q' : (x == y) = false := by simpa using q
        rw [q'] at h ⊢; exact h
    · rename_i hk
      refine closL_isSome cells r _ x ?_
      by_cases q : (x == y) = true
      · rw [q] at h
        rcases h with h | h
        · simp only [Option.some.injEq] at h; rw [h] at hk; simp at hk
        · exact .inr h
      · have q' : (x == y) = false := by simpa using q
        rw [q'] at h; exact h

theorem lookup_relabel {env : Env} : ∀ {names : List (Str × NameKind)} {x : Str} {kd : NameKind}, (names.map fun (n, k) => if (k == NameKind.free && env.scope.kind == .function && env.kindOf n == some .cell) then (n, NameKind.cell) else (n, k)).lookup x = some kd →
    names.lookup x = some kd ∨ (names.lookup x = some .free ∧ kd = .cell)
  | [], _, _, h => by simp at h
  | (n, k) :: r, x, kd, h => by
    have ih := @lookup_relabel env r x kd
    rw [List.lookup_cons]
    rw [List.map_cons] at h
    dsimp only at h
    by_cases hc : (k == NameKind.free && env.scope.kind == .function && env.kindOf n == some .cell) = true
    · rw [if_pos hc, List.lookup_cons] at h
      cases hx : x == n with
      | true => simp only [hx, Option.some.injEq] at h; right; refine ⟨?_, h.symm⟩
                have : k = .free := by simp at hc; exact hc.1.1
                rw [this]
      | false => simp only [hx] at h ⊢; exact ih h
    · rw [if_neg hc, List.lookup_cons] at h
      cases hx : x == n with
      | true => simp only [hx] at h ⊢; exact .inl h
      | false => simp only [hx] at h ⊢; exact ih h

structure CompScope (env : Env) (scope : Scope) : Prop where
  kind : scope.kind = .function
  nocell : ∀ x ∈ scope.names, x.2 ≠ .cell
  names : ∀ x ∈ scope.names, x.2 = .local → scope.names.lookup x.1 = some .local
  free : ∀ x ∈ scope.names, x.2 = .free → (env.cells.lookup x.1).isSome = true
  frees : ∀ x, scope.names.lookup x = some .free → env.kindOf x = some .cell ∨ env.kindOf x = some .free

abbrev cenvOf (env : Env) (scope : Scope) (L : Addr) : Env := compEnvC scope (closL env.cells scope.names []) L env

/-- in the comprehension's frame -/
theorem comp_enter {s₃ s₄ : Shared} {scope : Scope} (cs : CompScope env scope) (S : SimL C env ρ H s₃) (hk : ∀ a o, s₃.heap.get? a = some o → s₄.heap.get? a = some o) (hg : s₄.gens = s₃.gens) (ho : s₄.os = s₃.os) {L : Addr} {m₀ : Str → Option Value}
    (hns : s₄.heap.Ns L m₀) (hL : s₃.heap.objs.size ≤ L) : SimL C (cenvOf env scope L) (Rho.hide scope ρ) H s₄ := by
  have S₄ := S.sim.grown hk hg ho
  have SL := S.ext S₄ (Ext.grown hk)
  obtain ⟨m, cm, F, r⟩ := SL.frm
  have look : ∀ x c, (closL env.cells scope.names []).lookup x = some c → env.cells.lookup x = some c := fun x c e => closL_lookup _ _ _ x c cs.free (fun y c' e => by cases e) e
  refine ⟨S₄, cs.kind, S.globals, S.builtins, m₀, cm, ⟨hns, fun n c e => F.cell n c (look n c e), S.sim.fresh hL, fun n c e => F.ownc n c (look n c e), S.sim.freshB hL, fun n c e => F.abovec n c (look n c e), fun n n' c e e' => F.apart n n' c (look n c e) (look n' c e')⟩, fun x v e => ?_⟩
  unfold Rho.hide at e
  split at e
  · cases e
  · rename_i hx
    have rx := r x v e
    unfold LocRel
    have hkind : Env.kindOf (cenvOf env scope L) x = (relabel scope env).names.lookup x := rfl
    cases q : (relabel scope env).names.lookup x with
    | none => rw [hkind, q]; trivial
    | some kd =>
      rw [hkind, q]
      rcases lookup_relabel q with q' | ⟨q', rfl⟩
      · cases kd with
        | «local» => exact absurd q' hx
        | cell => exact absurd rfl (cs.nocell (x, .cell) (mem_of_lookup q'))
        | free =>
          obtain ⟨c, hc⟩ := Option.isSome_iff_exists.mp (closL_isSome env.cells scope.names [] x (.inl q'))
          unfold LocRel at rx
          rcases cs.frees x q' with z | z <;> rw [z] at rx
          · obtain ⟨u, c', a, b, d⟩ := rx; exact ⟨u, c, hc, b, d⟩
          · obtain ⟨u, c', a, b, d⟩ := rx; exact ⟨u, c, hc, b, d⟩
        | _ => trivial
      · obtain ⟨c, hc⟩ := Option.isSome_iff_exists.mp (closL_isSome env.cells scope.names [] x (.inl q'))
        unfold LocRel at rx
        rcases cs.frees x q' with z | z <;> rw [z] at rx
        · obtain ⟨u, c', a, b, d⟩ := rx; exact ⟨u, c, hc, b, d⟩
        · obtain ⟨u, c', a, b, d⟩ := rx; exact ⟨u, c, hc, b, d⟩

end Mine

set_option Elab.async false
set_option linter.unusedVariables false
namespace Mine
open PySem PyProof.Rows

variable {C : Cx} {k : Nat} {env : Env} {ρ : Rho} {H : Hp} {Q R : V → Hp → Prop}

/-- an owned object is changed -/
theorem Sim.update {s s' : Shared} {a : Addr} {o o' : O} (S : Sim C H s) (ha : H a = some o) (hs : Heap.SameBut a s.heap s'.heap) (hl : ∃ ob, s'.heap.get? a = some ob) (hg : s'.gens = s.gens) (ho : s'.os = s.os)
    (hr : ORel C s'.heap (H.set a o') a o') : Sim C (H.set a o') s' ∧ Ext H s.heap (H.set a o') s'.heap := by
  have hne : ∀ b, H b = none → b ≠ a := fun b e q => by subst q; rw [ha] at e; cases e
  have E : Ext H s.heap (H.set a o') s'.heap := by
    refine ⟨fun b ob e n => .of ((hs.2 b (hne b n)).trans e), fun b ob e n => ?_, fun b ob e => ?_⟩
    · unfold Hp.set; rw [if_neg (hne b n)]; exact n
    · by_cases q : b = a
      · subst q; exact hl
      · exact ⟨ob, (hs.2 b q).trans e⟩
  refine ⟨⟨fun b ob e => (hs.2 b fun q => ?_).trans (S.keep b ob e), hg.trans S.gens, ho.trans S.os, fun b o'' e => ?_, fun b e => ?_, S.frs.keep fun L o _ _ e n _ => ⟨E.grow L o e n, (hs.2 L (hne L n)).trans e⟩⟩, E⟩
  · subst q; rw [(S.new b (by rw [ha]; simp)).1] at e; cases e
  · unfold Hp.set at e
    split at e
    · rename_i q; subst q; cases e; exact hr
    · rename_i q
      exact (S.objs b o'' e).same E.v (hs.2 b q)
  · unfold Hp.set at e
    split at e
    · rename_i q; subst q; exact S.new b (by rw [ha]; simp)
    · exact S.new b e

theorem append_W {A : Around} {a : Addr} {l : List V} {v : V} {x : Value} {s : Shared} {E : Value → Shared → Prop} {P : Value → Shared → Prop} (S : Sim C H s) (ha : H a = some (.list l)) (hn : l.length ≤ 1000) (r : VRel s.heap H v x)
    (h : ∀ s', Sim C (H.set a (.list (l ++ [v]))) s' → Ext H s.heap (H.set a (.list (l ++ [v]))) s'.heap → P .none s') : wpAny C.M A (call (.builtin "list.append") [.ref a, x]) P E s := by
  obtain ⟨xs, hl, rl⟩ := S.objs _ _ ha
  have hz : xs.size = l.length := by have := rl.length; simpa using this
  refine wpAny_list_append_plain hl (fun h' hl' hs => ?_) (by rw [hz]; exact Nat.le_trans hn (by decide))
  have hex : ∃ ob, h'.get? a = some ob := let ⟨_, e⟩ := hl'; ⟨_, e⟩
  have hne : ∀ b, H b = none → b ≠ a := fun b e q => by subst q; rw [ha] at e; cases e
  have E0 : ExtV H s.heap (H.set a (.list (l ++ [v]))) h' := fun b ob _ _ e _ n => ⟨.of ((hs.2 b (hne b n)).trans e), by unfold Hp.set; rw [if_neg (hne b n)]; exact n⟩
  obtain ⟨S', E'⟩ := S.update (s' := { s with heap := h' }) (o' := .list (l ++ [v])) ha hs hex rfl rfl ⟨_, hl', by simpa using (rl.extV E0).append (.cons (r.extV E0) .nil)⟩
  exact h _ S' E'

/-- names stored in the frame's own table alone -/
def AssignL (C : Cx) (k : Nat) (env : Env) (target : Expr) (v : V) (Q : Rho → Prop) (ρ : Rho) (H : Hp) : Prop :=
  ∀ A, Lv C k A → ∀ s x, SimL C env ρ H s → VRel s.heap H v x → ∀ (P : Unit → Shared → Prop) E, (∀ ρ' s', Q ρ' → SimL C env ρ' H s' → ExtF env H s.heap H s'.heap → (∀ a o, a ≠ env.locals → s.heap.get? a = some o → s'.heap.get? a = some o) → P () s') → wpAny C.M A (assign target env x) P E s
theorem AssignL.name {x p v} {Q : Rho → Prop} (hk : env.kindOf x = some .local) (h : Q (ρ.set x v)) : AssignL C k env (.Name x p) v Q ρ H := fun A a s u S r P E hP =>
  wpAny_assign_Name (store_local hk S r fun s' S' E' hk' _ => hP _ s' h S' E' hk')
def compOk (env : Env) (scope : Scope) : Bool :=
  (scope.kind == .function) && scope.names.all (fun x => x.2 != .cell && (x.2 != .local || scope.names.lookup x.1 == some .local) && (x.2 != .free || ((env.cells.lookup x.1).isSome && (env.kindOf x.1 == some .cell || env.kindOf x.1 == some .free))))
theorem CompScope.of {scope : Scope} (h : compOk env scope = true) : CompScope env scope := by
  unfold compOk at h
  simp only [Bool.and_eq_true, beq_iff_eq, List.all_eq_true, Bool.or_eq_true, bne_iff_ne, ne_eq] at h
  refine ⟨h.1, fun x hx => (h.2 x hx).1.1, fun x hx hl => ?_, fun x hx hf => ?_, fun x hx => ?_⟩
  · rcases (h.2 x hx).1.2 with q | q
    · exact absurd hl q
    · exact q
  · rcases (h.2 x hx).2 with q | q
    · exact absurd hf q
    · exact q.1
  · rcases (h.2 (x, .free) (mem_of_lookup hx)).2 with q | q
    · exact absurd rfl q
    · exact q.2

/-- the comprehension's loop; D is the list that it fills -/
theorem comp_loop {elt target iter : Expr} {ifs : List Expr} {scope : Scope} {pos : Pos} {I : Addr} {wr : List Addr} {St : List V → Hp → Heap → Prop} {cond : Hp → Prop} {tup : Bool} (IT : ItrOK C tup I wr St cond) (ht : IsTupleE tup target) (hd : C.hd = true) {A : Around} (lv : Lv C k A)
    {cenv : Env} {ρc : Rho} {D : Addr}
    (Inv : List V → List V → Hp → Prop) (hc : ∀ r acc H, Inv r acc H → cond H ∧ H D = some (.list acc) ∧ acc.length ≤ 1000)
    (step : ∀ v r acc H, Inv (v :: r) acc H → AssignL C k cenv target v (fun ρ' => Rho.le ρc ρ' ∧ IfsW C k cenv ifs (fun b H₁ => if b = true then EvalW C k cenv elt (fun u H₂ => H₂ D = some (.list acc) ∧ Inv r (acc ++ [u]) (H₂.set D (.list (acc ++ [u])))) (fun _ _ => False) ρ' H₁ else Inv r acc H₁) (fun _ _ => False) ρ' H) ρc H)
    {h₀ : Heap} {H₀ : Hp} (hn : ∀ b ∈ wr, h₀.get? b = none) (hL : h₀.get? cenv.locals = none) {PE : Result → Shared → Prop}
    (hPE : ∀ acc H s', Inv [] acc H → SimL C cenv ρc H s' → Ext H₀ h₀ H s'.heap → PE (.ok .next) s')
    (items acc : List V) (s : Shared) (S : SimL C cenv ρc H s) (E : Ext H₀ h₀ H s.heap) (st : St items H s.heap) (h0 : Inv items acc H) :
    codeAny C.M A (.compLoop (.ListComp elt [⟨target, iter, ifs, 0⟩] scope pos) 0 (.ref I) (.ref D) cenv) PE s := by
  have hu : A.units + 1 < cLine := by have := lv.units; omega
  refine compLoop_any (fun n s' => ∃ r acc H, n = r.length + 1 ∧ Inv r acc H ∧ SimL C cenv ρc H s' ∧ Ext H₀ h₀ H s'.heap ∧ St r H s'.heap) ?_ (items.length + 1) ⟨items, acc, H, rfl, h0, S, E, st⟩
  rintro n s ⟨r, acc, H, rfl, hI, S, E, st⟩
  have T := IT.tmp _ _ _ st
  cases r with
  | nil =>
    refine IT.done A s H _ _ (lv.handled hd) hu S.sim (hc _ _ _ hI).1 st fun s' M => ?_
    exact hPE acc H _ hI (S.moved T M) (E.moved M hn)
  | cons v r =>
    refine IT.next A hu s v r H _ _ S.sim (hc _ _ _ hI).1 st fun x s' hlet => ?_
    refine hlet target ht _ fun s'' rx'' st'' M'' => ?_
    have S'' := S.moved T M''
    have E'' := E.moved M'' hn
    refine step v r acc H hI A lv s'' x S'' rx'' _ _ fun ρ' s₃ hb S₃ E₃ hk₃ => ?_
    obtain ⟨hle, hb⟩ := hb
    have E₃' : Ext H₀ h₀ H s₃.heap := by
      have hb : ∀ a o, h₀.get? a = some o → a ≠ cenv.locals := fun a o e q => by rw [q, hL] at e; cases e
      exact ⟨fun a o e n => (E''.keep a o e n).trans fun o' e' => .of (hk₃ a o' (hb a o e) e'), E''.grow, fun a o e => let ⟨o', e'⟩ := E''.live a o e; ⟨o', hk₃ a o' (hb a o e) e'⟩⟩
    have st₃ : ExtW H s''.heap H s₃.heap := E₃.w S''
    refine wpAny_mono (hb A lv s₃ S₃) ?_ ?_
    · rintro b s₄ ⟨b', H₄, q, S₄, rfl, E₄⟩
      cases b'
      · simp only [Bool.false_eq_true, if_false] at q ⊢
        refine ⟨r.length + 1, by simp, r, acc, H₄, rfl, q, (S₃.ext S₄ E₄).weaken hle, E₃'.trans E₄, IT.frame _ _ _ _ _ st'' (st₃.trans E₄.w) (hc _ _ _ q).1⟩
      · simp only [if_true] at q ⊢
        refine wpAny_mono (q A lv s₄ (S₃.ext S₄ E₄)) ?_ ?_
        · rintro y s₅ ⟨u, H₅, ⟨hD, hI'⟩, S₅, r₅, E₅⟩
          have hlen : acc.length ≤ 1000 := (hc _ _ _ hI).2.2
          refine append_W S₅ hD hlen r₅ fun s₆ S₆ E₆ => ?_
          refine ⟨r.length + 1, by simp, r, acc ++ [u], _, rfl, hI', (S₃.ext S₆ (E₄.trans (E₅.trans E₆))).weaken hle, E₃'.trans (E₄.trans (E₅.trans E₆)), ?_⟩
          exact IT.frame _ _ _ _ _ st'' (st₃.trans (E₄.trans (E₅.trans E₆)).w) (hc _ _ _ hI').1
        · rintro e s₅ ⟨_, _, q, _⟩; exact q.elim
    · rintro e s₄ ⟨_, _, q, _⟩; exact q.elim

end Mine

set_option Elab.async false
set_option linter.unusedVariables false
namespace Mine
open PySem PyProof.Rows

variable {C : Cx} {k : Nat} {env : Env} {ρ : Rho} {H : Hp} {Q R : V → Hp → Prop}

/-- what a comprehension's walk wants: an invariant over the list D that is filled, what is left, what is made -/
structure CompInv (C : Cx) (k : Nat) (env : Env) (elt target : Expr) (ifs : List Expr) (scope : Scope) (ρ : Rho) (Inv : Addr → List V → List V → Hp → Prop) : Prop where
  len : ∀ D r acc H, Inv D r acc H → H D = some (.list acc) ∧ acc.length ≤ 1000
  step : ∀ L D v r acc H, Inv D (v :: r) acc H → AssignL C k (cenvOf env scope L) target v (fun ρ' => Rho.le (Rho.hide scope ρ) ρ' ∧
    IfsW C k (cenvOf env scope L) ifs (fun b H₁ => if b = true then EvalW C k (cenvOf env scope L) elt (fun u H₂ => H₂ D = some (.list acc) ∧ Inv D r (acc ++ [u]) (H₂.set D (.list (acc ++ [u])))) (fun _ _ => False) ρ' H₁
      else Inv D r acc H₁) (fun _ _ => False) ρ' H) (Rho.hide scope ρ) H

theorem comp_core {elt target iter : Expr} {ifs : List Expr} {scope : Scope} {pos p' : Pos} {use : Option (Value → Sem Unit)} {A : Around} (a : Lv C k A) (cs : CompScope env scope) (hd : C.hd = true) {tup : Bool} (ht : IsTupleE tup target)
    (FIN : Addr → List V → Hp → Prop)
    (h : IterE C k env tup iter (fun items cond H₁ => ∃ Inv, CompInv C k env elt target ifs scope ρ Inv ∧ (∀ D, H₁ D = none → Inv D items [] (H₁.set D (.list []))) ∧ (∀ D r acc H, Inv D r acc H → cond H) ∧ ∀ D acc H', Inv D [] acc H' → FIN D acc H') R ρ H)
    {s : Shared} (S : SimL C env ρ H s) {P : Value → Shared → Prop} {E : Value → Shared → Prop} (hE : ∀ e s', Post C H s.heap VRel R e s' → E e s')
    (fin : ∀ D acc H' s' L m, FIN D acc H' → SimL C env ρ H' s' → Ext H s.heap H' s'.heap → s'.heap.Ns L m → s.heap.get? L = none → H' L = none → C.base.get? L = none → compPost C.M A E use P (.ref D) L (.ok .next) s')
    (hs : ∀ x, foldedSetIterable iter env x = pure x) :
    wpAny C.M A (comprehension (.ListComp elt [⟨target, iter, ifs, 0⟩] scope pos) scope env p' (newList []) false (eval iter env) use) P E s := by
  refine wpAny_comprehension_free (cl := closL env.cells scope.names []) rfl hs (closureFor_eq cs.free) cs.kind cs.names ?_
  refine h A a s S _ _ hE ?_
  rintro I wr St items cond H₂ s₂ ⟨Inv, CI, hI0, hcond, hfin⟩ IT hcd st hn S₂ E₂
  refine newList_W S₂ .nil (Nat.zero_le _) fun D s₃ hD S₃ E₃ => ?_
  refine wpAny_newFunctionEnv cs.nocell (by intro y hy; simp at hy) (fun h₁ hns₁ hsb₁ => ?_) cs.kind
  have hk₃ : ∀ b o, s₃.heap.get? b = some o → h₁.get? b = some o := fun b o e => hsb₁.extBut b o (Nat.ne_of_lt (Heap.lt_size e)) (Heap.get?_push_of_some _ e)
  have hI1 := hI0 D hD
  have E02 := E₂.trans E₃
  have E04 : Ext H s.heap (H₂.set D (.list [])) h₁ := E02.trans (Ext.grown hk₃)
  have hL0 : s.heap.get? s₃.heap.objs.size = none := E02.new_none (Nat.le_refl _)
  have S₃L := S.ext S₃ E02
  have S₄ : SimL C (cenvOf env scope s₃.heap.objs.size) (Rho.hide scope ρ) (H₂.set D (.list [])) { s₃ with heap := h₁, toks := s₃.toks + ([] : List (Str × Value)).length } :=
    comp_enter (s₄ := { s₃ with heap := h₁, toks := s₃.toks + ([] : List (Str × Value)).length }) cs S₃L hk₃ rfl rfl hns₁ (Nat.le_refl _)
  have st₄ : St items (H₂.set D (.list [])) h₁ := IT.frame _ _ _ _ _ st (E₃.trans (Ext.grown hk₃)).w (hcond _ _ _ _ hI1)
  have loop : ∀ s₅ : Shared, s₅ = { s₃ with heap := h₁, toks := s₃.toks + ([] : List (Str × Value)).length } →
      codeAny C.M A (.compLoop (.ListComp elt [⟨target, iter, ifs, 0⟩] scope pos) 0 (.ref I) (.ref D) (cenvOf env scope s₃.heap.objs.size)) (compPost C.M A E use P (.ref D) s₃.heap.objs.size) s₅ := by
    rintro s₅ rfl
    refine comp_loop IT ht hd a (Inv D) (fun r acc H' hi => ⟨hcond _ _ _ _ hi, CI.len _ _ _ _ hi⟩) (fun v r acc H' hi => CI.step _ D v r acc H' hi) (h₀ := s.heap) (H₀ := H) hn hL0 ?_ items [] _ S₄ E04 st₄ hI1
    intro acc H' s' hi S' E'
    obtain ⟨m, cm, F, _⟩ := S'.frm
    exact fin D acc H' s' _ m (hfin _ _ _ hi) (S.ext S'.sim E') E' F.ns hL0 F.own F.above
  refine codeAny_compStart_list (loop _ rfl) (IT.self A _ items _ _ _ st₄ (loop _ rfl))

theorem EvalW.comp {elt target iter ifs scope pos} (tup : Bool) (cs : compOk env scope = true) (hd : C.hd = true) (ht : IsTupleE tup target)
    (h : IterE C k env tup iter (fun items cond H₁ => ∃ Inv, CompInv C k env elt target ifs scope ρ Inv ∧ (∀ D, H₁ D = Option.none → Inv D items [] (H₁.set D (.list []))) ∧ (∀ D r acc H, Inv D r acc H → cond H) ∧
      ∀ D acc H', Inv D [] acc H' → ∃ v H'', Fz H' (.ref D) v H'' ∧ Q v H'') R ρ H)
    (hs : ∀ x, foldedSetIterable iter env x = pure x := by intro _; rfl) :
    EvalW C k env (.ListComp elt [⟨target, iter, ifs, 0⟩] scope pos) Q R ρ H := fun A a s S => by
  rw [eval_ListComp]
  refine comp_core a (CompScope.of cs) hd ht _ h S (fun _ _ p => p) (fun D acc H' s' L m hi S' E' hns hL hHL hBL => ?_) hs
  refine ⟨m, hns, fun h' hsb => ?_⟩
  obtain ⟨v, H'', fz, q⟩ := hi
  obtain ⟨oL, eL, nL⟩ := ns_noseq hns
  have S'' : Sim C H' { s' with heap := h' } := S'.sim.touch (s' := { s' with heap := h' }) eL nL hHL hBL (fun a o n e => hsb.extBut a o n e) rfl rfl (.inr (.inr ⟨_, _, S.sim.frs, hL⟩))
  obtain ⟨S3, r3⟩ := fz.2 C { s' with heap := h' } (.ref D) S'' (.ref D)
  have hb : ∀ a o, s.heap.get? a = some o → a ≠ L := fun a o e q => by rw [q, hL] at e; cases e
  exact ⟨v, H'', q, S3, r3, ⟨fun a o e n => (E'.keep a o e n).trans fun o' e' => .of (hsb.extBut a o' (hb a o e) e'), fun a o e n => fz.1 a (E'.grow a o e n), fun a o e => let ⟨o', e'⟩ := E'.live a o e; ⟨o', hsb.extBut a o' (hb a o e) e'⟩⟩⟩

variable {QS : Fl → Rho → Hp → Prop} {RS : V → Rho → Hp → Prop}
theorem ExecW.assign_comp {x p' elt target iter ifs scope cpos pos} (tup : Bool) (hk : env.kindOf x = some .local) (cs : compOk env scope = true) (hd : C.hd = true) (ht : IsTupleE tup target)
    (h : IterE C k env tup iter (fun items cond H₁ => ∃ Inv, CompInv C k env elt target ifs scope ρ Inv ∧ (∀ D, H₁ D = Option.none → Inv D items [] (H₁.set D (.list []))) ∧ (∀ D r acc H, Inv D r acc H → cond H) ∧
      ∀ D acc H', Inv D [] acc H' → ∃ v H'', Fz H' (.ref D) v H'' ∧ QS .next (ρ.set x v) H'') (fun v H' => RS v ρ H') ρ H)
    (hsw : swapsWith (.ListComp elt [⟨target, iter, ifs, 0⟩] scope cpos) (some (.Name x p')) pos.line env = pure true := by rfl)
    (hs : ∀ x, foldedSetIterable iter env x = pure x := by intro _; rfl) :
    ExecW C k env (.Assign [.Name x p'] (.ListComp elt [⟨target, iter, ifs, 0⟩] scope cpos) pos) QS RS ρ H := fun A a s S => by
  have e0 : exec (.Assign [.Name x p'] (.ListComp elt [⟨target, iter, ifs, 0⟩] scope cpos) pos) env = (do
      standAt pos
      if ← swapsWith (.ListComp elt [⟨target, iter, ifs, 0⟩] scope cpos) (some (.Name x p')) pos.line env then do
        evalThenUse (.ListComp elt [⟨target, iter, ifs, 0⟩] scope cpos) env fun v => assignAll v ((assignEach [.Name x p'] env).map (·.2))
        pure .next
      else do
        let v ← eval (.ListComp elt [⟨target, iter, ifs, 0⟩] scope cpos) env
        assignStores env v (← swappedStores [.Name x p'] (.ListComp elt [⟨target, iter, ifs, 0⟩] scope cpos) env) ((assignEach [.Name x p'] env).map (·.2))) := rfl
  rw [e0, hsw]
  refine wpAny_bind (wpAny_standAt (wpAny_bind (wpAny_pure ?_)))
  simp only [if_true]
  refine wpAny_bind ?_
  rw [arm_evalThenUse_ListComp]
  refine wpAny_bind ?_
  refine comp_core a (CompScope.of cs) hd ht _ h S (fun _ _ p => p.toX S) (fun D acc H' s' L m hi S' E' hns hL hHL hBL => ?_) hs
  show wpAny C.M A (PySem.assign (.Name x p') env (.ref D)) _ _ s'
  refine wpAny_assign_Name ?_
  obtain ⟨v, H'', fz, q⟩ := hi
  obtain ⟨S3, r3⟩ := fz.2 C s' (.ref D) S'.sim (.ref D)
  have E3 : Ext H' s'.heap H'' s'.heap := ⟨fun _ _ e _ => .of e, fun a _ _ n => fz.1 a n, fun _ o e => ⟨o, e⟩⟩
  have SL3 := S'.ext S3 E3
  refine store_local hk SL3 r3 fun s₅ S₅ E₅ hk₅ hg₅ => ?_
  have hLne : L ≠ env.locals := fun q => by
    obtain ⟨m2, cm2, F2, _⟩ := S.frm
    obtain ⟨o2, e2, _⟩ := ns_noseq F2.ns
    rw [← q, hL] at e2; cases e2
  obtain ⟨oL, es, ep, eL, dL, rL⟩ := hns
  have hns5 : s₅.heap.Ns L m := ⟨oL, es, ep, hk₅ _ _ hLne eL, dL, rL⟩
  refine ⟨m, hns5, fun h' hsb => wpAny_pure (wpAny_pure ?_)⟩
  obtain ⟨m5, cm5, F5, r5⟩ := S₅.frm
  obtain ⟨oL5, eL5, nL5⟩ := ns_noseq hns5
  have hHL' : H'' L = Option.none := fz.1 L hHL
  have hkeep : ∀ a o, a ≠ L → s₅.heap.get? a = some o → h'.get? a = some o := fun a o n e => hsb.extBut a o n e
  have S6 : Sim C H'' { s₅ with heap := h' } := S₅.sim.touch (s' := { s₅ with heap := h' }) eL5 nL5 hHL' hBL hkeep rfl rfl (.inr (.inr ⟨_, _, S.sim.frs, hL⟩))
  have hcellne : ∀ n c, env.cells.lookup n = some c → c ≠ L := fun n c e q => by
    obtain ⟨m2, cm2, F2, _⟩ := S.frm
    obtain ⟨o2, e2, _⟩ := cell_noseq (F2.cell n c e)
    rw [q, hL] at e2; cases e2
  have SL6 : SimL C env (ρ.set x v) H'' { s₅ with heap := h' } := by
    refine ⟨S6, S.kind, S.globals, S.builtins, m5, cm5, ⟨?_, fun n c e => ?_, F5.own, F5.ownc, F5.above, F5.abovec, F5.apart⟩, fun y w e => (r5 y w e).extV (ExtV.but eL5 nL5 hkeep)⟩
    · exact F5.ns.sameBut hsb (Ne.symm hLne)
    · exact (F5.cell n c e).sameBut hsb (hcellne n c e)
  have hb : ∀ a o, s.heap.get? a = some o → a ≠ L := fun a o e q => by rw [q, hL] at e; cases e
  have EF : ExtF env H s.heap H'' s₅.heap := (E'.trans E3).toF.trans E₅
  refine ⟨.next, ρ.set x v, H'', q, trivial, SL6, ⟨fun a o e n n1 n2 => (EF.keep a o e n n1 n2).trans fun o' e' => .of (hkeep a o' (hb a o e) e'), EF.grow, fun a o e => let ⟨o', e'⟩ := EF.live a o e; ⟨o', hkeep a o' (hb a o e) e'⟩⟩⟩

end Mine

set_option Elab.async false
set_option linter.unusedVariables false
namespace Mine
open PySem PyProof.Rows

variable {C : Cx} {k : Nat} {env : Env} {ρ : Rho} {H : Hp} {Q R : V → Hp → Prop} {QB : Bool → Hp → Prop}

/- ints -/
theorem BinW.add {i j : Int} (h : Q (.int (i + j)) H) : BinW C k .Add (.int i) (.int j) Q R H := fun A a s x y S r1 r2 => by
  cases r1; cases r2; exact add_int (Post.here h (S.toks _) (.int _ _) rfl)
theorem BinW.sub {i j : Int} (h : Q (.int (i - j)) H) : BinW C k .Sub (.int i) (.int j) Q R H := fun A a s x y S r1 r2 => by
  cases r1; cases r2; exact sub_int (Post.here h (S.toks _) (.int _ _) rfl)
theorem BinW.mul {i j : Int} (hb : IntMulOk i j) (h : Q (.int (i * j)) H) : BinW C k .Mult (.int i) (.int j) Q R H := fun A a s x y S r1 r2 => by
  cases r1; cases r2; exact mul_int (Post.here h (S.toks _) (.int _ _) rfl) hb
theorem BinW.mod {i j : Int} (hb : 0 < j) (h : Q (.int (i % j)) H) : BinW C k .Mod (.int i) (.int j) Q R H := fun A a s x y S r1 r2 => by
  cases r1; cases r2
  refine mod_int' (by omega) (Post.here (v := .int (i % j)) h (S.toks _) ?_ rfl)
  rw [Int.fmod_eq_emod_of_nonneg _ (by omega)]; exact .int _ _
theorem BinW.floordiv {i j : Int} (hb : 0 < j) (hs : j < 1073741824) (h : Q (.int (i / j)) H) : BinW C k .FloorDiv (.int i) (.int j) Q R H := fun A a s x y S r1 r2 => by
  cases r1; cases r2
  refine floordiv_int (by omega) (Post.here (v := .int (i / j)) h (S.toks _) ?_ rfl) (Or.inl (PyProof.noPylong_small (by omega)))
  rw [Int.fdiv_eq_ediv_of_nonneg _ (by omega)]; exact .int _ _
theorem EvalW.neg {e p} (h : EvalW C k env e (fun v H' => ∃ i, v = .int i ∧ Q (.int (-i)) H') R ρ H) : EvalW C k env (.UnaryOp .USub e p) Q R ρ H := fun A a s S => by
  refine UnaryOp_ (wp_go (h A a s S) fun x v H₁ s₁ h₁ S₁ r₁ E₁ => ?_)
  obtain ⟨i, rfl, q⟩ := h₁
  cases r₁
  exact neg_int ⟨_, _, q, S₁.toks _, .int _ _, E₁⟩

theorem CmpW.lt {i j : Int} (h : Q (.bool (decide (i < j))) H) : CmpW C k .Lt (.int i) (.int j) Q R H := fun A a s x y S r1 r2 => by
  cases r1; cases r2; exact lt_int (Post.here h S (.bool _) rfl)
theorem CmpW.le {i j : Int} (h : Q (.bool (decide (i ≤ j))) H) : CmpW C k .LtE (.int i) (.int j) Q R H := fun A a s x y S r1 r2 => by
  cases r1; cases r2; exact le_int (Post.here h S (.bool _) rfl)
theorem CmpW.eqI {i j : Int} (h : Q (.bool (i == j)) H) : CmpW C k .Eq (.int i) (.int j) Q R H := fun A a s x y S r1 r2 => by
  cases r1; cases r2; exact eq_int (Post.here h S (.bool _) rfl)
theorem CmpW.neI {i j : Int} (h : Q (.bool (i != j)) H) : CmpW C k .NotEq (.int i) (.int j) Q R H := fun A a s x y S r1 r2 => by
  cases r1; cases r2; exact ne_int (Post.here h S (.bool _) rfl)
theorem CmpW.neS {i j : Str} (h : Q (.bool (i != j)) H) : CmpW C k .NotEq (.str i) (.str j) Q R H := fun A a s x y S r1 r2 => by
  cases r1; cases r2; exact ne_str (Post.here h S (.bool _) rfl)

def V.isNone : V → Bool
  | .none => true
  | _ => false
def V.notCon : V → Prop
  | .con _ => False
  | _ => True
theorem CmpW.isNone {v : V} (hv : v.notCon) (h : Q (.bool v.isNone) H) : CmpW C k .Is v .none Q R H := fun A a s x y S r1 r2 => by
  cases r2
  refine is_none_gen (Post.here (v := .bool v.isNone) h S ?_ rfl)
  cases r1 <;> first | exact .bool _ | exact hv.elim
theorem TruthW.bool {b : Bool} (h : QB b H) : TruthW C k (.bool b) QB R H := fun A a s x S r => by
  cases r; exact wpAny_truthy_bool (Post.here h S rfl rfl)
/- len -/
theorem CallW.len {v : V} {l : List V} (hl : lview H v = some l) (hn : l.length ≤ 100000) (h : Q (.int l.length) H) : CallW C k (.builtin "len") [v] Q R H := fun A a s xs S r => by
  cases r with
  | cons r r' =>
    cases r'
    obtain ⟨ad, ys, rfl, hL, rl⟩ := lview_list hl S r
    have hz : ys.size = l.length := by have := rl.length; simpa using this
    refine len_list hL (by omega) (Post.here h (S.toks _) ?_ rfl)
    rw [hz]; exact .int _ _
theorem CallW.lenT {l : List V} (hn : l.length ≤ 100000) (h : Q (.int l.length) H) : CallW C k (.builtin "len") [.tup l] Q R H := fun A a s xs S r => by
  cases r with
  | cons r r' =>
    cases r'
    cases r with
    | @tup ad _ ys ha ho rl =>
      have hz : ys.size = l.length := by have := rl.length; simpa using this
      refine len_tuple ha (by omega) (Post.here h (S.toks _) ?_ rfl)
      rw [hz]; exact .int _ _

/- subscripts -/
def SubW (C : Cx) (k : Nat) (value slice : Expr) (v i : V) (Q R : V → Hp → Prop) (H : Hp) : Prop :=
  ∀ A, Lv C k A → ∀ s x y, Sim C H s → VRel s.heap H v x → VRel s.heap H i y → wpAny C.M A (subscriptTail value slice x y) (Post C H s.heap VRel Q) (Post C H s.heap VRel R) s
theorem EvalW.sub {value slice p} (h : EvalW C k env value (fun v H₁ => EvalW C k env slice (fun i H₂ => SubW C k value slice v i Q R H₂) R ρ H₁) R ρ H) : EvalW C k env (.Subscript value slice p) Q R ρ H := fun A a s S =>
  Subscript_ (wp_go (h A a s S) fun x v H₁ s₁ h₁ S₁ r₁ E₁ => wp_go (h₁ A a s₁ (S.ext S₁ E₁)) (fun y w H₂ s₂ h₂ S₂ r₂ E₂ => wp_fin (E₁.trans E₂) (h₂ A a s₂ x y S₂ (r₁.ext E₂) r₂)) fun _ _ p => p.after E₁)
theorem SubW.list {value slice} {v u : V} {l : List V} {i : Int} (hl : lview H v = some l) (h0 : 0 ≤ i) (hi : i < 2 ^ 63) (hx : l[i.toNat]? = some u) (h : Q u H)
    (hs : ∀ o i, subscripted slice false o i = operate [o, i] (getItem o i) := by intros; rfl) : SubW C k value slice v (.int i) Q R H := fun A a s x y S r1 r2 => by
  obtain ⟨ad, xs, rfl, hL, rl⟩ := lview_list hl S r1
  cases r2
  obtain ⟨z, ez, rz⟩ := rl.get hx
  exact tail_any hL.typeIs slot_list_getitem.lookup (wpAny_getItem_list hL h0 hi (by simpa using ez) (Post.here h S rz rfl)) (hs _ _)
theorem SubW.tup {value slice} {u : V} {l : List V} {i : Int} (h0 : 0 ≤ i) (hi : i < 2 ^ 63) (hx : l[i.toNat]? = some u) (h : Q u H)
    (hs : ∀ o i, subscripted slice false o i = operate [o, i] (getItem o i) := by intros; rfl) : SubW C k value slice (.tup l) (.int i) Q R H := fun A a s x y S r1 r2 => by
  cases r1 with
  | @tup ad _ xs ha ho rl =>
    cases r2
    obtain ⟨z, ez, rz⟩ := rl.get hx
    have hz : i.toNat < xs.size := by have := (List.getElem?_eq_some_iff.mp ez).1; simpa using this
    refine tail_any (T := "tuple") (Heap.IsTuple.typeIs ha) slot_tuple_getitem.lookup (getItem_tuple (j := i.toNat) ha (by omega) hi ?_ (by simpa using ez) (Post.here h S rz rfl)) (hs _ _)
    unfold seqIndex?
    have : ¬ i < 0 := by omega
    simp [this, hz]; omega

/- isinstance -/
def tyOf (H : Hp) : V → Option String
  | .none => some "NoneType"
  | .bool _ => some "bool"
  | .int _ => some "int"
  | .str _ => some "str"
  | .tup _ => some "tuple"
  | .lst _ => some "list"
  | .ref a => match H a with
    | some (.list _) => some "list"
    | some (.dictI ..) => some "dict"
    | some (.dictS ..) => some "dict"
    | _ => Option.none
  | .con _ => Option.none
def isSub (T U : String) : Bool := T == U || (T == "bool" && U == "int")
theorem CallW.isi_int {v : V} {T : String} (hT : tyOf H v = some T) (h : Q (.bool (isSub T "int")) H) : CallW C k (.builtin "isinstance") [v, .con (.type "int")] Q R H := fun A a s xs S r => by
  cases r with
  | cons r r1 =>
    cases r1 with
    | cons r1 r2 =>
      cases r2; cases r1
      cases r with
      | none => exact IsiPair.NoneType_int (Post.here (v := .bool false) (by cases hT; exact h) (S.toks _) (.bool _) rfl)
      | bool b => exact IsiPair.bool_int (Post.here (v := .bool true) (by cases hT; exact h) S (.bool _) rfl)
      | int i t => exact IsiPair.int_int (Post.here (v := .bool true) (by cases hT; exact h) S (.bool _) rfl)
      | str x t => exact IsiPair.str_int (Post.here (v := .bool false) (by cases hT; exact h) (S.toks _) (.bool _) rfl)
      | tup ha ho hl => obtain ⟨o, e, c, _⟩ := ha; exact IsiPair.tuple_int e c (Post.here (v := .bool false) (by cases hT; exact h) (S.toks _) (.bool _) rfl)
      | lst ha ho hl => obtain ⟨o, e, c, _⟩ := ha; exact IsiPair.list_int e c (Post.here (v := .bool false) (by cases hT; exact h) (S.toks _) (.bool _) rfl)
      | ref ad =>
        simp only [tyOf] at hT
        split at hT
        · rename_i l e
          obtain ⟨ys, hpl, _⟩ := S.objs _ _ e
          obtain ⟨o, e', c, _⟩ := hpl.isList
          exact IsiPair.list_int e' c (Post.here (v := .bool false) (by cases hT; exact h) (S.toks _) (.bool _) rfl)
        · rename_i m n e
          obtain ⟨f, ⟨o, es, ep, e', hx, _⟩, _⟩ := S.objs _ _ e
          exact IsiPair.dict_int e' hx.1 (Post.here (v := .bool false) (by cases hT; exact h) (S.toks _) (.bool _) rfl)
        · rename_i m n e
          obtain ⟨f, ⟨o, es, ep, e', hx, _⟩, _⟩ := S.objs _ _ e
          exact IsiPair.dict_int e' hx.1 (Post.here (v := .bool false) (by cases hT; exact h) (S.toks _) (.bool _) rfl)
        · cases hT
      | con v => cases hT
theorem CallW.isi_bool {v : V} {T : String} (hT : tyOf H v = some T) (h : Q (.bool (isSub T "bool")) H) : CallW C k (.builtin "isinstance") [v, .con (.type "bool")] Q R H := fun A a s xs S r => by
  cases r with
  | cons r r1 =>
    cases r1 with
    | cons r1 r2 =>
      cases r2; cases r1
      cases r with
      | none => exact IsiPair.NoneType_bool (Post.here (v := .bool false) (by cases hT; exact h) (S.toks _) (.bool _) rfl)
      | bool b => exact IsiPair.bool_bool (Post.here (v := .bool true) (by cases hT; exact h) S (.bool _) rfl)
      | int i t => exact IsiPair.int_bool (Post.here (v := .bool false) (by cases hT; exact h) (S.toks _) (.bool _) rfl)
      | str x t => exact IsiPair.str_bool (Post.here (v := .bool false) (by cases hT; exact h) (S.toks _) (.bool _) rfl)
      | tup ha ho hl => obtain ⟨o, e, c, _⟩ := ha; exact IsiPair.tuple_bool e c (Post.here (v := .bool false) (by cases hT; exact h) (S.toks _) (.bool _) rfl)
      | lst ha ho hl => obtain ⟨o, e, c, _⟩ := ha; exact IsiPair.list_bool e c (Post.here (v := .bool false) (by cases hT; exact h) (S.toks _) (.bool _) rfl)
      | ref ad =>
        simp only [tyOf] at hT
        split at hT
        · rename_i l e
          obtain ⟨ys, hpl, _⟩ := S.objs _ _ e
          obtain ⟨o, e', c, _⟩ := hpl.isList
          exact IsiPair.list_bool e' c (Post.here (v := .bool false) (by cases hT; exact h) (S.toks _) (.bool _) rfl)
        · rename_i m n e
          obtain ⟨f, ⟨o, es, ep, e', hx, _⟩, _⟩ := S.objs _ _ e
          exact IsiPair.dict_bool e' hx.1 (Post.here (v := .bool false) (by cases hT; exact h) (S.toks _) (.bool _) rfl)
        · rename_i m n e
          obtain ⟨f, ⟨o, es, ep, e', hx, _⟩, _⟩ := S.objs _ _ e
          exact IsiPair.dict_bool e' hx.1 (Post.here (v := .bool false) (by cases hT; exact h) (S.toks _) (.bool _) rfl)
        · cases hT
      | con v => cases hT
theorem CallW.isi_str {v : V} {T : String} (hT : tyOf H v = some T) (h : Q (.bool (isSub T "str")) H) : CallW C k (.builtin "isinstance") [v, .con (.type "str")] Q R H := fun A a s xs S r => by
  cases r with
  | cons r r1 =>
    cases r1 with
    | cons r1 r2 =>
      cases r2; cases r1
      cases r with
      | none => exact IsiPair.NoneType_str (Post.here (v := .bool false) (by cases hT; exact h) (S.toks _) (.bool _) rfl)
      | bool b => exact IsiPair.bool_str (Post.here (v := .bool false) (by cases hT; exact h) (S.toks _) (.bool _) rfl)
      | int i t => exact IsiPair.int_str (Post.here (v := .bool false) (by cases hT; exact h) (S.toks _) (.bool _) rfl)
      | str x t => exact IsiPair.str_str (Post.here (v := .bool true) (by cases hT; exact h) S (.bool _) rfl)
      | tup ha ho hl => obtain ⟨o, e, c, _⟩ := ha; exact IsiPair.tuple_str e c (Post.here (v := .bool false) (by cases hT; exact h) (S.toks _) (.bool _) rfl)
      | lst ha ho hl => obtain ⟨o, e, c, _⟩ := ha; exact IsiPair.list_str e c (Post.here (v := .bool false) (by cases hT; exact h) (S.toks _) (.bool _) rfl)
      | ref ad =>
        simp only [tyOf] at hT
        split at hT
        · rename_i l e
          obtain ⟨ys, hpl, _⟩ := S.objs _ _ e
          obtain ⟨o, e', c, _⟩ := hpl.isList
          exact IsiPair.list_str e' c (Post.here (v := .bool false) (by cases hT; exact h) (S.toks _) (.bool _) rfl)
        · rename_i m n e
          obtain ⟨f, ⟨o, es, ep, e', hx, _⟩, _⟩ := S.objs _ _ e
          exact IsiPair.dict_str e' hx.1 (Post.here (v := .bool false) (by cases hT; exact h) (S.toks _) (.bool _) rfl)
        · rename_i m n e
          obtain ⟨f, ⟨o, es, ep, e', hx, _⟩, _⟩ := S.objs _ _ e
          exact IsiPair.dict_str e' hx.1 (Post.here (v := .bool false) (by cases hT; exact h) (S.toks _) (.bool _) rfl)
        · cases hT
      | con v => cases hT
theorem CallW.isi_list {v : V} {T : String} (hT : tyOf H v = some T) (h : Q (.bool (isSub T "list")) H) : CallW C k (.builtin "isinstance") [v, .con (.type "list")] Q R H := fun A a s xs S r => by
  cases r with
  | cons r r1 =>
    cases r1 with
    | cons r1 r2 =>
      cases r2; cases r1
      cases r with
      | none => exact IsiPair.NoneType_list (Post.here (v := .bool false) (by cases hT; exact h) (S.toks _) (.bool _) rfl)
      | bool b => exact IsiPair.bool_list (Post.here (v := .bool false) (by cases hT; exact h) (S.toks _) (.bool _) rfl)
      | int i t => exact IsiPair.int_list (Post.here (v := .bool false) (by cases hT; exact h) (S.toks _) (.bool _) rfl)
      | str x t => exact IsiPair.str_list (Post.here (v := .bool false) (by cases hT; exact h) (S.toks _) (.bool _) rfl)
      | tup ha ho hl => obtain ⟨o, e, c, _⟩ := ha; exact IsiPair.tuple_list e c (Post.here (v := .bool false) (by cases hT; exact h) (S.toks _) (.bool _) rfl)
      | lst ha ho hl => obtain ⟨o, e, c, _⟩ := ha; exact IsiPair.list_list e c (Post.here (v := .bool true) (by cases hT; exact h) S (.bool _) rfl)
      | ref ad =>
        simp only [tyOf] at hT
        split at hT
        · rename_i l e
          obtain ⟨ys, hpl, _⟩ := S.objs _ _ e
          obtain ⟨o, e', c, _⟩ := hpl.isList
          exact IsiPair.list_list e' c (Post.here (v := .bool true) (by cases hT; exact h) S (.bool _) rfl)
        · rename_i m n e
          obtain ⟨f, ⟨o, es, ep, e', hx, _⟩, _⟩ := S.objs _ _ e
          exact IsiPair.dict_list e' hx.1 (Post.here (v := .bool false) (by cases hT; exact h) (S.toks _) (.bool _) rfl)
        · rename_i m n e
          obtain ⟨f, ⟨o, es, ep, e', hx, _⟩, _⟩ := S.objs _ _ e
          exact IsiPair.dict_list e' hx.1 (Post.here (v := .bool false) (by cases hT; exact h) (S.toks _) (.bool _) rfl)
        · cases hT
      | con v => cases hT
theorem CallW.isi_tuple {v : V} {T : String} (hT : tyOf H v = some T) (h : Q (.bool (isSub T "tuple")) H) : CallW C k (.builtin "isinstance") [v, .con (.type "tuple")] Q R H := fun A a s xs S r => by
  cases r with
  | cons r r1 =>
    cases r1 with
    | cons r1 r2 =>
      cases r2; cases r1
      cases r with
      | none => exact IsiPair.NoneType_tuple (Post.here (v := .bool false) (by cases hT; exact h) (S.toks _) (.bool _) rfl)
      | bool b => exact IsiPair.bool_tuple (Post.here (v := .bool false) (by cases hT; exact h) (S.toks _) (.bool _) rfl)
      | int i t => exact IsiPair.int_tuple (Post.here (v := .bool false) (by cases hT; exact h) (S.toks _) (.bool _) rfl)
      | str x t => exact IsiPair.str_tuple (Post.here (v := .bool false) (by cases hT; exact h) (S.toks _) (.bool _) rfl)
      | tup ha ho hl => obtain ⟨o, e, c, _⟩ := ha; exact IsiPair.tuple_tuple e c (Post.here (v := .bool true) (by cases hT; exact h) S (.bool _) rfl)
      | lst ha ho hl => obtain ⟨o, e, c, _⟩ := ha; exact IsiPair.list_tuple e c (Post.here (v := .bool false) (by cases hT; exact h) (S.toks _) (.bool _) rfl)
      | ref ad =>
        simp only [tyOf] at hT
        split at hT
        · rename_i l e
          obtain ⟨ys, hpl, _⟩ := S.objs _ _ e
          obtain ⟨o, e', c, _⟩ := hpl.isList
          exact IsiPair.list_tuple e' c (Post.here (v := .bool false) (by cases hT; exact h) (S.toks _) (.bool _) rfl)
        · rename_i m n e
          obtain ⟨f, ⟨o, es, ep, e', hx, _⟩, _⟩ := S.objs _ _ e
          exact IsiPair.dict_tuple e' hx.1 (Post.here (v := .bool false) (by cases hT; exact h) (S.toks _) (.bool _) rfl)
        · rename_i m n e
          obtain ⟨f, ⟨o, es, ep, e', hx, _⟩, _⟩ := S.objs _ _ e
          exact IsiPair.dict_tuple e' hx.1 (Post.here (v := .bool false) (by cases hT; exact h) (S.toks _) (.bool _) rfl)
        · cases hT
      | con v => cases hT

end Mine

set_option Elab.async false
set_option linter.unusedVariables false
namespace Mine
open PySem PyProof.Rows

variable {C : Cx} {k : Nat} {env : Env} {ρ : Rho} {H : Hp} {Q R : V → Hp → Prop} {QB : Bool → Hp → Prop}

mutual
def V.dat : V → PyData
  | .none => .none
  | .bool b => .bool b
  | .int i => .int i
  | .str s => .str s
  | .tup l => .tuple (datL l)
  | .lst l => .list (datL l)
  | .ref _ => .none
  | .con _ => .none
def datL : List V → List PyData
  | [] => []
  | v :: r => v.dat :: datL r
end
mutual
def V.pure : V → Bool
  | .none => true
  | .bool _ => true
  | .int _ => true
  | .str _ => true
  | .tup l => pureL l
  | .lst l => pureL l
  | .ref _ => false
  | .con _ => false
def pureL : List V → Bool
  | [] => true
  | v :: r => v.pure && pureL r
end
mutual
theorem VRel.reads {h : Heap} {H : Hp} : ∀ {v : V} {x : Value}, VRel h H v x → v.pure = true → ∃ as, Reads h x v.dat as
  | _, _, .none, _ => ⟨_, .none⟩
  | _, _, .bool b, _ => ⟨_, .bool b⟩
  | _, _, .int i t, _ => ⟨_, .int i t⟩
  | _, _, .str s t, _ => ⟨_, .str s t⟩
  | _, _, .tup ha ho hl, hp => by
    obtain ⟨o, e, c, n, d⟩ := ha
    obtain ⟨as, r⟩ := VRelL.reads hl (by simpa only [V.pure] using hp)
    exact ⟨as, by simpa only [V.dat] using .tuple e c d r⟩
  | _, _, .lst ha ho hl, hp => by
    obtain ⟨o, e, c, n, d⟩ := ha
    obtain ⟨as, r⟩ := VRelL.reads hl (by simpa only [V.pure] using hp)
    exact ⟨_, by simpa only [V.dat] using .list e c d r⟩
  | _, _, .ref _, hp => by simp [V.pure] at hp
  | _, _, .con _, hp => by simp [V.pure] at hp
theorem VRelL.reads {h : Heap} {H : Hp} : ∀ {v : List V} {x : List Value}, VRelL h H v x → pureL v = true → ∃ as, ReadsAll h x (datL v) as
  | _, _, .nil, _ => ⟨_, by simpa only [datL] using .nil⟩
  | _, _, .cons hv hl, hp => by
    simp only [pureL, Bool.and_eq_true] at hp
    obtain ⟨as, r⟩ := VRel.reads hv hp.1
    obtain ⟨bs, r'⟩ := VRelL.reads hl hp.2
    exact ⟨_, by simpa only [datL] using .cons r r'⟩
end
/-- an owned list, seen as it is now -/
def see (H : Hp) : V → V
  | .ref a => match H a with
    | some (.list l) => .lst l
    | _ => .ref a
  | v => v
theorem see_reads {s : Shared} {v : V} {x : Value} (S : Sim C H s) (r : VRel s.heap H v x) (hp : (see H v).pure = true) : ∃ as, Reads s.heap x (see H v).dat as := by
  cases r with
  | ref a =>
    simp only [see] at hp ⊢
    split at hp
    · rename_i l e
      obtain ⟨xs, hpl, rl⟩ := S.objs _ _ e
      obtain ⟨o, e', c, n, d⟩ := hpl.isList
      obtain ⟨as, r⟩ := VRelL.reads rl (by simpa only [V.pure] using hp)
      exact ⟨_, by simpa only [V.dat] using .list e' c d r⟩
    · simp [V.pure] at hp
  | none => exact VRel.reads (H := H) .none hp
  | bool b => exact VRel.reads (H := H) (.bool b) hp
  | int i t => exact VRel.reads (H := H) (.int i t) hp
  | str i t => exact VRel.reads (H := H) (.str i t) hp
  | tup ha ho hl => exact VRel.reads (.tup ha ho hl) hp
  | lst ha ho hl => exact VRel.reads (.lst ha ho hl) hp
  | con v => simp [see, V.pure] at hp

def okD (d : PyData) : Bool := SeqAt.shaped d
theorem CmpW.eq {v w : V} (hv : (see H v).pure = true) (hw : (see H w).pure = true) (sv : okD (see H v).dat = true) (sw : okD (see H w).dat = true) (h : Q (.bool (PyData.eqv (see H v).dat (see H w).dat)) H) : CmpW C k .Eq v w Q R H := fun A a s x y S r1 r2 => by
  obtain ⟨as, ra⟩ := see_reads S r1 hv
  obtain ⟨bs, rb⟩ := see_reads S r2 hw
  exact eq_dataH ra rb sv sw (by have := a.units; omega) (Post.here h S (.bool _) rfl)
theorem CmpW.ne {v w : V} (hv : (see H v).pure = true) (hw : (see H w).pure = true) (sv : okD (see H v).dat = true) (sw : okD (see H w).dat = true) (h : Q (.bool (!PyData.eqv (see H v).dat (see H w).dat)) H) : CmpW C k .NotEq v w Q R H := fun A a s x y S r1 r2 => by
  obtain ⟨as, ra⟩ := see_reads S r1 hv
  obtain ⟨bs, rb⟩ := see_reads S r2 hw
  exact ne_dataH ra rb sv sw (by have := a.units; omega) (Post.here h S (.bool _) rfl)

/- in: a list or tuple -/
theorem CmpW.notInList {v w : V} {l : List V} (hw : lview H w = some l) (pl : pureL l = true) (hv : (see H v).pure = true) (sl : okD (.list (datL l)) = true) (sv : okD (see H v).dat = true) (hm : ∀ y ∈ datL l, SeqAt.noMix y (see H v).dat = true)
    (h : Q (.bool (!decide (PySem.Spec.countIn (see H v).dat (datL l) ≠ 0))) H) : CmpW C k .NotIn v w Q R H := fun A a s x y S r1 r2 => by
  obtain ⟨as, ra⟩ := see_reads S r1 hv
  obtain ⟨ad, xs, rfl, ⟨o, e, c, n, d⟩, rl⟩ := lview_list hw S r2
  obtain ⟨bs, rb⟩ := VRelL.reads rl pl
  exact notIn_list_dataH (.list e c d rb) ra sl sv (by have := a.units; omega) hm (Post.here h S (.bool _) rfl)

/- dicts with int keys -/
theorem Sim.noSys {s : Shared} (S : Sim C H s) {a : Addr} {o : O} (ha : H a = some o) : (a == sysModules) = false := by
  have := (S.new a (by rw [ha]; simp)).2
  simpa using this
theorem CmpW.inI {a : Addr} {m : Int → Option V} {n : Nat} {i : Int} (ha : H a = some (.dictI m n)) (h : Q (.bool (m i).isSome) H) : CmpW C k .In (.int i) (.ref a) Q R H := fun A lv s x y S r1 r2 => by
  cases r1; cases r2
  obtain ⟨f, hm, hle, hr⟩ := S.objs _ _ ha
  refine wpAny_in_of (intKind_is _ _ _ _) (S.noSys ha) hm.mapOf (Post.here (v := .bool (m i).isSome) h (S.toks _) ?_ rfl)
  have := hr i
  cases e1 : m i <;> cases e2 : valueAt f i <;> rw [e1, e2] at this <;> first | exact this.elim | exact .bool _

end Mine

set_option Elab.async false
set_option linter.unusedVariables false
namespace Mine
open PySem PySem.W PyProof.Rows

variable {C : Cx} {k : Nat} {K : Frag}

/-- a def of the text, as the written part of the heap has it -/
theorem FnOK.ofK {a : Addr} {name qual : Str} {params : Arguments} {body : List Stmt} {scope : Scope} {dV kV doc pm cdv ct oc : Value} {an od : Option Addr} {osl : Array (Option Value)} {S : SpecT} (names : List Str)
    (X : K.In C.base) (lim : C.base.NoLimit) (ho : K.lookup a = some ⟨oc, od, .func (fnOf name qual params body scope dV kV doc pm an cdv ct), osl⟩) (hcd : codeIn K cdv qual = true)
    (hbind : ∀ vals : List Value, vals.length = names.length → bindArgs (fnOf name qual params body scope dV kV doc pm an cdv ct) ⟨vals, []⟩ = pure (names.zip vals))
    (hk : (names.all fun n => scope.names.lookup n == some .local || scope.names.lookup n == some .cell) = true) (hfl : (!scope.isCoroutine && !scope.isGenerator && scope.kind == .function) = true)
    (h : ∀ args Q R H, S args Q R H → args.length = names.length ∧ ∀ L, ExecsW (C.push (envOfC qual scope L a cdv)) k (envOfC qual scope L a cdv) body (RetQ Q) (fun _ _ _ => False) (bindRho (fun _ => none) names args) H) :
    FnOK C (k + 1) (.ref a) S := by
  simp only [Bool.and_eq_true, Bool.not_eq_true', beq_iff_eq] at hfl
  have D : FnDef C a (fnOf name qual params body scope dV kV doc pm an cdv ct) names body :=
    ⟨⟨_, X _ _ ho, rfl⟩, lim, codeRec_of X hcd, rfl, rfl, rfl, rfl, hfl.1.1, hfl.1.2, hfl.2, hbind, fun n hn => by
      have := List.all_eq_true.mp hk n hn
      simpa using this⟩
  exact FnOK.of_def D h
end Mine

set_option Elab.async false
set_option linter.unusedVariables false
namespace Mine
open PySem PySem.W PyProof.Rows

structure PCx (C : Cx) (K : Frag) : Prop where
  X : K.In C.base
  lim : C.base.NoLimit
  ns : ∃ mg mb, C.base.Ns mainGlobals mg ∧ C.base.Ns builtinsNs mb ∧ ∀ x : Str, x ≠ "__name__" → mb x = bootBuiltins x
  hd : C.hd = true
variable {C : Cx} {K : Frag}
theorem PCx.push (P : PCx C K) (env : Env) : PCx (C.push env) K := ⟨P.X, P.lim, P.ns, P.hd⟩
theorem PCx.glob (P : PCx C K) {x : Str} {v : Value} (e : nsIn K mainGlobals x = some (some v)) : GlobalV C x (.con v) :=
  let ⟨mg, mb, g, b, h⟩ := P.ns; ⟨v, .inl ⟨mg, g, mg_of P.X g e⟩, fun _ _ => .con v⟩
theorem PCx.globInt (P : PCx C K) {x : Str} {i : Int} {t : Tok} (e : nsIn K mainGlobals x = some (some (.int i t))) : GlobalV C x (.int i) :=
  let ⟨mg, mb, g, b, h⟩ := P.ns; ⟨_, .inl ⟨mg, g, mg_of P.X g e⟩, fun _ _ => .int i t⟩
theorem PCx.blt (P : PCx C K) {x : Str} {v : Value} (e : nsIn K mainGlobals x = some none) (hv : bootBuiltins x = some v) (hn : x ≠ "__name__" := by decide) : GlobalV C x (.con v) :=
  let ⟨mg, mb, g, b, h⟩ := P.ns; ⟨v, .inr ⟨mg, mb, g, mg_none_of P.X g e, b, (h x hn).trans hv⟩, fun _ _ => .con v⟩
end Mine

set_option Elab.async false
set_option linter.unusedVariables false
namespace Mine
open PySem PySem.W PyProof.Rows

variable {C : Cx} {k : Nat} {env : Env} {ρ : Rho} {H : Hp} {Q R : V → Hp → Prop} {QB : Bool → Hp → Prop} {QS : Fl → Rho → Hp → Prop} {RS : V → Rho → Hp → Prop}

theorem ExecW.expr {e p} (h : EvalW C k env e (fun _ H' => QS .next ρ H') (fun v H' => RS v ρ H') ρ H) (hi : interactive env = false := by rfl) (hs : swapsWith e Option.none p.line env = pure false := by rfl) :
    ExecW C k env (.Expr e p) QS RS ρ H := fun A a s S =>
  wpAny_Expr_any (wpAny_mono (h A a s S) (fun x s' ⟨v, H', q, S', r, E⟩ => ⟨.next, ρ, H', q, trivial, S.ext S' E, E.toF⟩) fun _ _ p => p.toX S) hi hs

/- chains of two comparisons -/
theorem EvalW.compare2 {l o₁ o₂ r₁ r₂ p} (h : EvalW C k env l (fun v H₁ => EvalW C k env r₁ (fun w H₂ => CmpW C k o₁ v w (fun c H₃ => TruthW C k c (fun b H₄ => if b = true then EvalW C k env r₂ (fun z H₅ => CmpW C k o₂ w z Q R H₅) R ρ H₄ else Q c H₄) R H₃) R H₂) R ρ H₁) R ρ H)
    (hm : lastMarks [o₁, o₂] [r₁, r₂] = false := by with_unfolding_all rfl) : EvalW C k env (.Compare l [o₁, o₂] [r₁, r₂] p) Q R ρ H := fun A a s S => by
  refine Compare_chain (wp_go (h A a s S) fun x v H₁ s₁ h₁ S₁ r₁ E₁ => ?_) hm
  unfold compareChain
  refine wpAny_bind (wpAny_holding (wp_go (h₁ A a s₁ (S.ext S₁ E₁)) (fun y w H₂ s₂ h₂ S₂ r₂ E₂ => wpAny_bind (wpAny_standAt (wpAny_bind (wpAny_holding ?_)))) fun _ _ p => p.after E₁))
  refine wp_go (h₂ A a s₂ x y S₂ (r₁.ext E₂) r₂) (fun z c H₃ s₃ h₃ S₃ r₃ E₃ => ?_) fun _ _ p => p.after (E₁.trans E₂)
  refine wpAny_bind (fun Γ p hΓ => ?_)
  rw [Sem.wp_release]
  show wpAny C.M A _ _ _ s₃
  refine wpAny_bind (wpAny_holding (wp_go (h₃ A a s₃ z S₃ r₃) (fun b b' H₄ s₄ h₄ S₄ e₄ E₄ => ?_) fun _ _ p => p.after ((E₁.trans E₂).trans E₃)))
  have e' : b' = b := e₄
  subst e'
  have E' := ((E₁.trans E₂).trans E₃).trans E₄
  cases b'
  · simp only [Bool.false_eq_true, if_false] at h₄ ⊢
    exact wpAny_pure ⟨c, H₄, h₄, S₄, r₃.ext E₄, E'⟩
  · simp only [if_true] at h₄ ⊢
    show wpAny C.M A (compareChain _ y [o₂] [eval _ env]) _ _ s₄
    unfold compareChain
    refine wpAny_bind (wpAny_holding (wp_go (h₄ A a s₄ (S.ext S₄ E')) (fun t tv H₅ s₅ h₅ S₅ r₅ E₅ => wpAny_bind (wpAny_standAt fun Γ p hΓ => ?_)) fun _ _ p => p.after E'))
    rw [Sem.wp_operate]
    exact wp_fin (E'.trans E₅) (h₅ A a s₅ y t S₅ (r₂.ext (E₃.trans (E₄.trans E₅))) r₅) Γ p hΓ

theorem TestW.compare2 {l o₁ o₂ r₁ r₂ p} (h : EvalW C k env l (fun v H₁ => EvalW C k env r₁ (fun w H₂ => CmpW C k o₁ v w (fun c H₃ => TruthW C k c (fun b H₄ => if b = true then EvalW C k env r₂ (fun z H₅ => CmpW C k o₂ w z (fun c' H₆ => TruthW C k c' QB R H₆) R H₅) R ρ H₄ else QB false H₄) R H₃) R H₂) R ρ H₁) R ρ H)
    (hm : lastMarks [o₁, o₂] [r₁, r₂] = false := by with_unfolding_all rfl) : TestW C k env (.Compare l [o₁, o₂] [r₁, r₂] p) QB R ρ H := fun A a s S => by
  refine isTrue_chain (wp_go (h A a s S) fun x v H₁ s₁ h₁ S₁ r₁ E₁ => ?_) hm
  unfold testChain
  refine wpAny_bind (wpAny_holding (wp_go (h₁ A a s₁ (S.ext S₁ E₁)) (fun y w H₂ s₂ h₂ S₂ r₂ E₂ => wpAny_bind (wpAny_standAt (wpAny_bind (wpAny_holding ?_)))) fun _ _ p => p.after E₁))
  refine wp_go (h₂ A a s₂ x y S₂ (r₁.ext E₂) r₂) (fun z c H₃ s₃ h₃ S₃ r₃ E₃ => ?_) fun _ _ p => p.after (E₁.trans E₂)
  refine wpAny_bind (fun Γ p hΓ => ?_)
  rw [Sem.wp_release]
  show wpAny C.M A _ _ _ s₃
  refine wpAny_bind (wpAny_holding (wp_go (h₃ A a s₃ z S₃ r₃) (fun b b' H₄ s₄ h₄ S₄ e₄ E₄ => ?_) fun _ _ p => p.after ((E₁.trans E₂).trans E₃)))
  have e' : b' = b := e₄
  subst e'
  have E' := ((E₁.trans E₂).trans E₃).trans E₄
  cases b'
  · simp only [Bool.false_eq_true, if_false] at h₄ ⊢
    exact wpAny_pure ⟨false, H₄, h₄, S₄, rfl, E'⟩
  · simp only [if_true] at h₄ ⊢
    show wpAny C.M A (testChain _ y [o₂] [eval _ env]) _ _ s₄
    unfold testChain
    refine wpAny_bind (wpAny_holding (wp_go (h₄ A a s₄ (S.ext S₄ E')) (fun t tv H₅ s₅ h₅ S₅ r₅ E₅ => wpAny_bind (wpAny_standAt (wpAny_bind fun Γ p hΓ => ?_))) fun _ _ p => p.after E'))
    rw [Sem.wp_operate]
    refine (wp_go (h₅ A a s₅ y t S₅ (r₂.ext (E₃.trans (E₄.trans E₅))) r₅) (fun u c' H₆ s₆ h₆ S₆ r₆ E₆ => wpAny_holding (wp_fin ((E'.trans E₅).trans E₆) (h₆ A a s₆ u S₆ r₆))) fun _ _ p => p.after (E'.trans E₅) : wpAny C.M A _ _ _ s₅) Γ p hΓ

/- empty dicts -/
theorem newDict_W {A : Around} {s : Shared} {E : Value → Shared → Prop} {P : Value → Shared → Prop} (S : Sim C H s) (o : O) (ho : o = .dictI (fun _ => Option.none) 0 ∨ o = .dictS (fun _ => Option.none) 0)
    (h : ∀ a s', H a = Option.none → Sim C (H.set a o) s' → Ext H s.heap (H.set a o) s'.heap → P (.ref a) s') : wpAny C.M A newDict P E s := by
  have hk : ∀ b o, s.heap.get? b = some o → (s.heap.push { cls := .type "dict", data := .dict #[] }).get? b = some o := fun b o e => Heap.get?_push_of_some _ e
  refine wpAny_newObj_type ?_
  have r : ORel C (s.heap.push { cls := .type "dict", data := .dict #[] }) (H.set s.heap.objs.size o) s.heap.objs.size o := by
    rcases ho with rfl | rfl
    · exact ⟨[], Heap.DictOf.new _, Nat.le_refl _, fun _ => trivial⟩
    · exact ⟨[], Heap.DictOf.new _, Nat.le_refl _, fun _ => trivial⟩
  obtain ⟨S', E'⟩ := S.alloc (s' := { s with heap := s.heap.push { cls := .type "dict", data := .dict #[] } }) hk rfl rfl r
  exact h _ _ (S.fresh (Nat.le_refl _)) S' E'
theorem EvalW.dictI {p} (h : ∀ a, H a = Option.none → Q (.ref a) (H.set a (.dictI (fun _ => Option.none) 0))) : EvalW C k env (.Dict [] [] p) Q R ρ H := fun A a s S => by
  rw [eval_Dict_empty]
  exact wpAny_bind (wpAny_standAt (newDict_W S.sim _ (.inl rfl) fun b s' n S' E' => ⟨_, _, h b n, S', .ref b, E'⟩))
/- item stores -/
theorem valueAt_stored' {K : Type} [DecidableEq K] (kvs : List (K × Value)) (k x : K) (v : Value) : valueAt (stored kvs k v) x = if x = k then some v else valueAt kvs x := by
  unfold valueAt stored
  split
  · rename_i hany
    induction kvs with
    | nil => simp at hany
    | cons p r ih =>
      obtain ⟨a, b⟩ := p
      by_cases hak : a = k
      · subst hak
        by_cases hx : x = a
        · subst hx; simp
        · have : ¬ a = x := fun e => hx e.symm
          by_cases hr : (r.any fun kv => decide (kv.1 = a)) = true
          · have ih' := ih hr
            simp only [hx, if_false] at ih' ⊢
            simp only [List.map_cons, if_true, List.find?_cons, this, decide_false]
            exact ih'
          · have hmap : r.map (fun kv => if kv.1 = a then (kv.1, v) else kv) = r := by
              refine (List.map_congr_left fun y hy => ?_).trans (List.map_id r)
              have : ¬ y.1 = a := fun e => hr (List.any_eq_true.mpr ⟨y, hy, by simp [e]⟩)
              simp [this]
            simp only [hx, if_false, List.map_cons, if_true, List.find?_cons, this, decide_false, hmap]
      · have hr : (r.any fun kv => decide (kv.1 = k)) = true := by simpa [hak] using hany
        have ih' := ih hr
        simp only [List.map_cons, hak, if_false, List.find?_cons]
        by_cases hx : a = x
        · subst hx; simp [hak]
        · simp only [hx, decide_false]; exact ih'
  · rename_i hany
    rw [List.find?_append]
    by_cases hx : x = k
    · subst hx
      have : kvs.find? (fun kv => decide (kv.1 = x)) = Option.none := by
        rw [List.find?_eq_none]; intro y hy; simp; intro e; exact hany (List.any_eq_true.mpr ⟨y, hy, by simp [e]⟩)
      simp [this]
    · have : ¬ k = x := fun e => hx e.symm
      simp [hx, this]

def SetW (C : Cx) (k : Nat) (v i u : V) (Q : Hp → Prop) (R : V → Hp → Prop) (H : Hp) : Prop :=
  ∀ A, Lv C k A → ∀ s x y z, Sim C H s → VRel s.heap H v x → VRel s.heap H i y → VRel s.heap H u z → wpAny C.M A (setItem x y z) (Post C H s.heap (fun _ _ (_ _ : Unit) => True) (fun _ H' => Q H')) (Post C H s.heap VRel R) s
theorem ExecW.assign_sub {o i p' e p} (h : EvalW C k env e (fun u H₁ => EvalW C k env o (fun v H₂ => EvalW C k env i (fun j H₃ => SetW C k v j u (fun H₄ => QS .next ρ H₄) (fun w H' => RS w ρ H') H₃) (fun w H' => RS w ρ H') ρ H₂) (fun w H' => RS w ρ H') ρ H₁) (fun w H' => RS w ρ H') ρ H)
    (hs : swapsWith e (some (.Subscript o i p')) p.line env = pure false := by rfl) : ExecW C k env (.Assign [.Subscript o i p'] e p) QS RS ρ H := fun A a s S => by
  refine wpAny_Assign_Subscript (wp_go (h A a s S) (fun z u H₁ s₁ h₁ S₁ r₁ E₁ => ?_) fun _ _ p => p.toX S) hs
  refine wp_go (h₁ A a s₁ (S.ext S₁ E₁)) (fun x v H₂ s₂ h₂ S₂ r₂ E₂ => ?_) fun _ _ p => (p.after E₁).toX S
  refine wp_go (h₂ A a s₂ (S.ext S₂ (E₁.trans E₂))) (fun y j H₃ s₃ h₃ S₃ r₃ E₃ => ?_) fun _ _ p => (p.after (E₁.trans E₂)).toX S
  refine wpAny_mono (h₃ A a s₃ x y z S₃ (r₂.ext E₃) r₃ (r₁.ext (E₂.trans E₃))) ?_ fun _ _ p => (p.after ((E₁.trans E₂).trans E₃)).toX S
  rintro _ s₄ ⟨_, H₄, q, S₄, _, E₄⟩
  have E := ((E₁.trans E₂).trans E₃).trans E₄
  exact ⟨.next, ρ, H₄, q, trivial, S.ext S₄ E, E.toF⟩
theorem SetW.dictI {a : Addr} {m : Int → Option V} {n : Nat} {i : Int} {u : V} {QH : Hp → Prop} (ha : H a = some (.dictI m n)) (hn : n ≤ 100000) (h : QH (H.set a (.dictI (fun x => if x = i then some u else m x) (n + 1)))) : SetW C k (.ref a) (.int i) u QH R H := fun A lv s x y z S r1 r2 r3 => by
  cases r1; cases r2
  obtain ⟨f, hm, hle, hr⟩ := S.objs _ _ ha
  refine wpAny_setItem_pairs (intKind_is _ _ _ _) hm (fun h' hm' hs => ?_) (Nat.le_trans hle (Nat.le_trans hn (by decide)))
  have hex : ∃ ob, h'.get? a = some ob := let ⟨o, _, _, e, _⟩ := hm'; ⟨o, e⟩
  have hne : ∀ b, H b = none → b ≠ a := fun b e q => by subst q; rw [ha] at e; cases e
  have E0 : ∀ o', ExtV H s.heap (H.set a o') h' := fun o' b ob _ _ e _ n => ⟨.of ((hs.2 b (hne b n)).trans e), by unfold Hp.set; rw [if_neg (hne b n)]; exact n⟩
  obtain ⟨S', E'⟩ := S.update (s' := { s with heap := h', toks := s.toks + 1 }) (o' := .dictI (fun x => if x = i then some u else m x) (n + 1)) ha hs hex rfl rfl
    ⟨_, hm', Nat.le_trans (stored_length_le _ _ _) (Nat.succ_le_succ hle), fun x => by
      rw [valueAt_stored']
      by_cases q : x = i
      · simp only [q, if_true]; exact r3.extV (E0 _)
      · simp only [q, if_false]; exact (hr x).extV (E0 _)⟩
  exact ⟨(), _, h, S', trivial, E'⟩
theorem SetW.list {a : Addr} {l : List V} {i : Int} {u : V} {QH : Hp → Prop} (ha : H a = some (.list l)) (h0 : 0 ≤ i) (hi : i < l.length) (hn : l.length ≤ 100000) (h : QH (H.set a (.list (l.set i.toNat u)))) : SetW C k (.ref a) (.int i) u QH R H := fun A lv s x y z S r1 r2 r3 => by
  cases r1; cases r2
  obtain ⟨xs, hl, rl⟩ := S.objs _ _ ha
  have hz : xs.size = l.length := by have := rl.length; simpa using this
  obtain ⟨n, ho⟩ := hl
  refine ki_setAt (items := xs) (n := n) ho h0 (by omega) (by omega) ?_
  have e1 : Obj.mapSeq (·.setIfInBounds i.toNat z) { cls := .type "list", data := .seq xs n } = { cls := .type "list", data := .seq (xs.setIfInBounds i.toNat z) n } := by simp [Obj.mapSeq]
  have hs := Heap.SameBut.update s.heap a (Obj.mapSeq (·.setIfInBounds i.toNat z))
  have hl' : (s.heap.update a (Obj.mapSeq (·.setIfInBounds i.toNat z))).PlainList a (xs.setIfInBounds i.toNat z) := ⟨n, by rw [Heap.get?_update_self _ ho (by rw [e1]; rfl), e1]⟩
  generalize s.heap.update a (Obj.mapSeq (·.setIfInBounds i.toNat z)) = h' at hs hl'
  have hex : ∃ ob, h'.get? a = some ob := let ⟨_, e⟩ := hl'; ⟨_, e⟩
  have hne : ∀ b, H b = none → b ≠ a := fun b e q => by subst q; rw [ha] at e; cases e
  have E0 : ExtV H s.heap (H.set a (.list (l.set i.toNat u))) h' := fun b ob _ _ e _ n => ⟨.of ((hs.2 b (hne b n)).trans e), by unfold Hp.set; rw [if_neg (hne b n)]; exact n⟩
  obtain ⟨S', E'⟩ := S.update (s' := { s with heap := h' }) (o' := .list (l.set i.toNat u)) ha hs hex rfl rfl ⟨_, hl', by simpa using (rl.extV E0).set (r3.extV E0)⟩
  exact ⟨(), _, h, S', trivial, E'⟩

end Mine

set_option Elab.async false
set_option linter.unusedVariables false
namespace Mine
open PySem PySem.W PyProof.Rows

variable {C : Cx} {k : Nat} {env : Env} {ρ : Rho} {H : Hp} {Q R : V → Hp → Prop} {QB : Bool → Hp → Prop} {QS : Fl → Rho → Hp → Prop} {RS : V → Rho → Hp → Prop}

/-- a new list laid at the heap's end -/
theorem newAt_W {s s' : Shared} {l : List V} {xs : Array Value} (S : Sim C H s) (hk : ∀ b o, s.heap.get? b = some o → s'.heap.get? b = some o) (hl : s'.heap.PlainList s.heap.objs.size xs) (r : VRelL s.heap H l xs.toList) (hg : s'.gens = s.gens) (ho : s'.os = s.os)
    (h : ∀ a, H a = Option.none → Q (.ref a) (H.set a (.list l))) : Post C H s.heap VRel Q (.ref s.heap.objs.size) s' := by
  have E0 : Ext H s.heap (H.set s.heap.objs.size (.list l)) s'.heap :=
    ⟨fun a ob e _ => .of (hk a ob e), fun a ob e n => by unfold Hp.set; rw [if_neg (Nat.ne_of_lt (Heap.lt_size e))]; exact n, fun a ob e => ⟨ob, hk a ob e⟩⟩
  obtain ⟨S', E'⟩ := S.alloc hk hg ho (o := .list l) ⟨xs, hl, r.ext E0⟩
  exact ⟨_, _, h _ (S.fresh (Nat.le_refl _)), S', .ref _, E'⟩

theorem CallW.listCopy {v : V} {l : List V} (hl : lview H v = some l) (hn : l.length ≤ 100000) (h : ∀ a, H a = Option.none → Q (.ref a) (H.set a (.list l))) : CallW C k (.type "list") [v] Q R H := fun A a s xs S r => by
  cases r with
  | cons r r' =>
    cases r'
    obtain ⟨ad, ys, rfl, ⟨o, e, c, n, d⟩, rl⟩ := lview_list hl S r
    have hz : ys.size = l.length := by have := rl.length; simpa using this
    refine call_list_seq (hsz := by rw [hz]; exact Nat.le_trans hn (by decide)) ad (.inl rfl) e c d fun h' c' hk hD => ?_
    exact newAt_W S hk ⟨_, hD⟩ rl rfl rfl h
end Mine

set_option Elab.async false
set_option linter.unusedVariables false
namespace Mine
open PySem PySem.W PyProof.Rows

variable {C : Cx} {k : Nat} {env : Env} {ρ : Rho} {H : Hp} {Q R : V → Hp → Prop} {QB : Bool → Hp → Prop} {QS : Fl → Rho → Hp → Prop} {RS : V → Rho → Hp → Prop}

theorem foldl_rep (x : Value) : ∀ (n : Nat) (acc : Array Value), (List.foldl (fun x1 x2 => x1 ++ x2) acc (List.replicate n #[x])).toList = acc.toList ++ List.replicate n x
  | 0, acc => by simp
  | n + 1, acc => by rw [List.replicate_succ, List.foldl_cons, foldl_rep x n, List.replicate_succ]; simp
theorem VRelL.rep {h : Heap} {v : V} {x : Value} (r : VRel h H v x) : ∀ n : Nat, VRelL h H (List.replicate n v) (List.replicate n x)
  | 0 => .nil
  | n + 1 => .cons r (rep r n)

/-- [e] * n -/
theorem EvalW.listMul {e p1 n p2} (h : EvalW C k env e (fun v H₁ => EvalW C k env n (fun w H₂ => ∃ i : Int, w = .int i ∧ i ≤ 100000 ∧ -100000 ≤ i ∧ ∀ a, H₂ a = Option.none → Q (.ref a) (H₂.set a (.list (List.replicate i.toNat v)))) R ρ H₁) R ρ H)
    (he : starEach [e] env = [(false, eval e env)] := by rfl) : EvalW C k env (.BinOp (.List [e] p1) .Mult n p2) Q R ρ H := fun A a s S => by
  refine wpAny_BinOp (List_ ?_)
  rw [he]
  refine Calls.spliced_cons (wp_go (h A a s S) fun x v H₁ s₁ h₁ S₁ r₁ E₁ => Calls.spliced_nil ?_)
  have hk : ∀ b o, s₁.heap.get? b = some o → (s₁.heap.push { cls := .type "list", data := .seq [x].toArray }).get? b = some o := fun b o e => Heap.get?_push_of_some _ e
  refine wpAny_newObj_type ?_ (by show [x].toArray.size ≤ sizeLine; simp; decide)
  have S₂ : Sim C H₁ { s₁ with heap := s₁.heap.push { cls := .type "list", data := .seq [x].toArray } } := S₁.grown (s' := { s₁ with heap := s₁.heap.push { cls := .type "list", data := .seq [x].toArray } }) hk rfl rfl
  have E₂ : Ext H₁ s₁.heap H₁ (s₁.heap.push { cls := .type "list", data := .seq [x].toArray }) := Ext.grown hk
  refine wp_go (h₁ A a _ (S.ext S₂ (E₁.trans E₂))) (fun y w H₃ s₃ h₃ S₃ r₃ E₃ => ?_) fun _ _ p => p.after (E₁.trans E₂)
  obtain ⟨i, rfl, hi1, hi2, hQ⟩ := h₃
  cases r₃ with
  | int _ u =>
    have hl : s₃.heap.get? s₁.heap.objs.size = some { cls := .type "list", dict := Option.none, data := .seq [x].toArray 0, slots := #[] } := (E₃.keep _ _ (Heap.get?_push_size _ rfl) (S₁.fresh (Nat.le_refl _))).exact (fun _ _ q => by cases q)
    have rx := r₁.ext (E₂.trans E₃)
    have E' := (E₁.trans E₂).trans E₃
    refine wpAny_binaryOp_repeat_ref (T := "list") (U := "int") (by decide) ⟨_, hl, rfl⟩ (fun s' => typeIs_int s' i u) noFill_list_mul F.fills_int_mul F.slot_int_rmul repeat_list F.slot_int_index.lookup
      (call_meets F.slot_int_rmul (typeIs_int s₃ i u) F.entry_int_rmul (F.args_int_rmul_2 _ _) (int___rmul___int_list i u s₁.heap.objs.size _ 0)
      ⟨hl, rfl, ⟨_, hl, rfl⟩, call_meets F.slot_list_mul ⟨_, hl, rfl⟩ F.entry_list_mul (F.args_list_mul_2 _ _)
        (AutoListH.list___mul___list_int_3 s₁.heap.objs.size _ 0 i u (by simp [Builtin.List.listFitsIndex]; omega) (by simp; omega) (by simp [Builtin.List.listTooLong, sizeLine]; omega))
        ⟨hl, ?_⟩⟩)
    have := newAt_W (Q := Q) (l := List.replicate i.toNat v) (s' := { s₃ with heap := s₃.heap.push { cls := .type "list", data := .seq (List.foldl (fun x1 x2 => x1 ++ x2) #[] (List.replicate (if ([x].toArray : Array Value).isEmpty = true then 0 else i.toNat) [x].toArray)) } })
      S₃ (fun b o e => Heap.get?_push_of_some _ e) ⟨_, Heap.get?_push_size _ rfl⟩ (by
        have e0 : (if ([x].toArray : Array Value).isEmpty = true then 0 else i.toNat) = i.toNat := by simp
        rw [e0]
        have := foldl_rep x i.toNat #[]
        simp only [List.nil_append, Array.toList_empty] at this
        show VRelL _ _ _ (List.foldl (fun x1 x2 => x1 ++ x2) #[] (List.replicate i.toNat #[x])).toList
        rw [this]; exact VRelL.rep rx _) rfl rfl hQ
    exact this.after E'

end Mine

set_option Elab.async false
set_option linter.unusedVariables false
namespace Mine
open PySem PySem.W PyProof.Rows

variable {C : Cx} {k : Nat} {env : Env} {ρ : Rho} {H : Hp} {Q R : V → Hp → Prop} {QB : Bool → Hp → Prop} {QS : Fl → Rho → Hp → Prop} {RS : V → Rho → Hp → Prop}

theorem MethIs.list {a : Addr} {l : List V} {name : Str} {id : String} (ha : H a = some (.list l)) (slot : Slot "list" name id) (hty : typeOf (.builtin id) = pure (.type "method_descriptor")) : MethIs C H (.ref a) name (.builtin id) := by
  intro A s x pl Q E S r hq
  cases r
  obtain ⟨xs, ⟨n, ho⟩, rl⟩ := S.objs _ _ ha
  exact getMethod_builtin ⟨_, ho, rfl⟩ PySem.F.plainAttrs_list slot hty (fun a e => by cases e; exact ⟨_, ho, rfl⟩) hq
theorem MethIs.append {a : Addr} {l : List V} (ha : H a = some (.list l)) : MethIs C H (.ref a) "append" (.builtin "list.append") := MethIs.list ha slot_list_append type_list_append

theorem CallW.append {a : Addr} {l : List V} {v : V} (ha : H a = some (.list l)) (hn : l.length ≤ 1000) (h : Q .none (H.set a (.list (l ++ [v])))) : CallW C k (.builtin "list.append") [.ref a, v] Q R H := fun A lv s xs S r => by
  cases r with
  | cons r1 r' => cases r' with
    | cons r2 r' => cases r'; cases r1; exact append_W S ha hn r2 fun s' S' E' => ⟨.none, _, h, S', .none, E'⟩

theorem lview_ref {a : Addr} {l : List V} (ha : H a = some (.list l)) : lview H (.ref a) = some l := by simp [lview, ha]
theorem Hp.le_set {H : Hp} {a : Addr} {o : O} (ha : H a = Option.none) : Hp.le H (H.set a o) := fun b ob e => by
  unfold Hp.set; split
  · rename_i q; subst q; rw [ha] at e; cases e
  · exact e
theorem Hp.set_self (H : Hp) (a : Addr) (o : O) : (H.set a o) a = some o := by simp [Hp.set]
theorem Hp.set_ne {H : Hp} {a b : Addr} {o : O} (h : b ≠ a) : (H.set a o) b = H b := by simp [Hp.set, h]
theorem Hp.set_set (H : Hp) (a : Addr) (o o' : O) : (H.set a o).set a o' = H.set a o' := by
  funext b; simp only [Hp.set]; split <;> rfl
/-- names by a list -/
def Rho.of : List (Str × V) → Rho
  | [] => fun _ => Option.none
  | (x, v) :: l => (Rho.of l).set x v
def Rho.sat : List (Str × V) → Rho → Prop
  | [], _ => True
  | (x, v) :: l, ρ => ρ x = some v ∧ Rho.sat l ρ
theorem Rho.sat.le : ∀ {l : List (Str × V)} {ρ : Rho}, Rho.sat l ρ → Rho.le (Rho.of l) ρ
  | [], ρ, _ => fun y w e => by cases e
  | (x, v) :: l, ρ, h => fun y w e => by
    simp only [Rho.of, Rho.set] at e
    split at e
    · rename_i q; subst q; cases e; exact h.1
    · exact Rho.sat.le h.2 y w e
theorem Rho.le_refl (ρ : Rho) : Rho.le ρ ρ := fun _ _ e => e

theorem ExecsW.conseq {sts} {Q' : Fl → Rho → Hp → Prop} (h : ExecsW C k env sts Q' RS ρ H) (hq : ∀ fl ρ₁ H₁, Q' fl ρ₁ H₁ → ∃ ρ₂, Rho.le ρ₂ ρ₁ ∧ QS fl ρ₂ H₁) : ExecsW C k env sts QS RS ρ H := fun A a s S =>
  wpAny_mono (h A a s S) (fun x s' ⟨fl, ρ₁, H₁, q, r, S', E⟩ => let ⟨ρ₂, hle, q'⟩ := hq fl ρ₁ H₁ q; ⟨fl, ρ₂, H₁, q', r, S'.weaken hle, E⟩) fun _ _ p => p
theorem AssignW.conseq {t v} {P P' : Rho → Prop} (h : AssignW C k env t v P ρ H) (hp : ∀ ρ, P ρ → P' ρ) : AssignW C k env t v P' ρ H := fun A a s x S r P₀ E hP => h A a s x S r P₀ E fun ρ' s' q => hP ρ' s' (hp _ q)

/-- what a loop's body leaves -/
def LoopQ (Inv : List (Str × V) → Hp → Prop) (QS : Fl → Rho → Hp → Prop) : Fl → Rho → Hp → Prop
  | .next, ρ, H => ∃ l, Inv l H ∧ Rho.sat l ρ
  | .cont, ρ, H => ∃ l, Inv l H ∧ Rho.sat l ρ
  | .brk, ρ, H => QS .next ρ H
  | .ret u, ρ, H => QS (.ret u) ρ H

theorem ExecW.for_in {target iter body pos} (tup : Bool) (hd : C.hd = true) (ht : IsTupleE tup target)
    (h : IterE C k env tup iter (fun items cond H₁ => ∃ Inv : List V → List (Str × V) → Hp → Prop, (∃ l, Inv items l H₁ ∧ Rho.sat l ρ) ∧ (∀ r l H, Inv r l H → cond H) ∧
      (∀ v r l H, Inv (v :: r) l H → AssignW C k env target v (fun ρ' => ExecsW C k env body (LoopQ (Inv r) QS) (fun _ _ _ => False) ρ' H) (Rho.of l) H) ∧
      (∀ l H, Inv [] l H → QS .next (Rho.of l) H)) (fun v H' => RS v ρ H') ρ H)
    (hs : ∀ x, foldedSetIterable iter env x = pure x := by intro _; rfl) : ExecW C k env (.For target iter body [] pos) QS RS ρ H := fun A a s S => by
  refine wpAny_For ?_ hs
  refine h A a s S _ _ (fun _ _ p => p.toX S) ?_
  rintro I wr St items cond H₂ s₂ ⟨Inv, ⟨l, hi, hl⟩, hc, step, fin⟩ IT hcd st hn S₂ E₂
  refine for_core IT ht hd a (ρ := Rho.of l) (fun r ρ H => ∃ l, ρ = Rho.of l ∧ Inv r l H) (fun r ρ H ⟨l, _, h⟩ => hc r l H h) ?_ ?_ hn (fun f s' p => p) items s₂ ((S.ext S₂ E₂).weaken hl.le) E₂.toF st ⟨l, rfl, hi⟩
  · rintro v r ρ H ⟨l, rfl, hi⟩
    refine (step v r l H hi).conseq fun ρ' hb => hb.conseq fun fl ρ₁ H₁ q => ?_
    cases fl with
    | next => obtain ⟨l', i', s'⟩ := q; exact ⟨_, s'.le, l', rfl, i'⟩
    | cont => obtain ⟨l', i', s'⟩ := q; exact ⟨_, s'.le, l', rfl, i'⟩
    | brk => exact ⟨_, Rho.le_refl _, q⟩
    | ret u => exact ⟨_, Rho.le_refl _, q⟩
  · rintro ρ H ⟨l, rfl, hi⟩; exact fin l H hi

/-- a comprehension over one name, with no effect but the list that it makes -/
def PureStep (C : Cx) (k : Nat) (env : Env) (x : Str) (elt : Expr) (ifs : List Expr) (scope : Scope) (ρ : Rho) (g : V → Option V) (H : Hp) (v : V) : Prop :=
  ∀ L, IfsW C k (cenvOf env scope L) ifs (fun b H₂ => H₂ = H ∧ if b = true then EvalW C k (cenvOf env scope L) elt (fun u H₃ => H₃ = H ∧ g v = some u) (fun _ _ => False) ((Rho.hide scope ρ).set x v) H else g v = Option.none) (fun _ _ => False) ((Rho.hide scope ρ).set x v) H

def compVar (env : Env) (scope : Scope) (x : Str) : Bool := scope.names.lookup x == some .local && ((cenvOf env scope 0).scope.names.lookup x == some .local)
theorem compVar.hide {scope : Scope} {x : Str} (h : compVar env scope x = true) : scope.names.lookup x = some .local := by
  simp only [compVar, Bool.and_eq_true] at h; exact eq_of_beq h.1
theorem compVar.kind {scope : Scope} {x : Str} (h : compVar env scope x = true) (L : Addr) : (cenvOf env scope L).kindOf x = some .local := by
  simp only [compVar, Bool.and_eq_true] at h; exact eq_of_beq h.2
theorem Rho.le_hide {scope : Scope} {x : Str} {v : V} (hx : scope.names.lookup x = some .local) : Rho.le (Rho.hide scope ρ) ((Rho.hide scope ρ).set x v) := fun y w e => by
  unfold Rho.set
  split
  · rename_i q; subst q; unfold Rho.hide at e; rw [if_pos hx] at e; cases e
  · exact e

theorem EvalW.conseq {e} {Q' R' : V → Hp → Prop} (h : EvalW C k env e Q' R' ρ H) (hq : ∀ v H, Q' v H → Q v H) (hr : ∀ v H, R' v H → R v H) : EvalW C k env e Q R ρ H := fun A a s S =>
  wpAny_mono (h A a s S) (fun x s' ⟨v, H', q, r⟩ => ⟨v, H', hq _ _ q, r⟩) fun x s' ⟨v, H', q, r⟩ => ⟨v, H', hr _ _ q, r⟩
theorem IfsW.conseq {e} {Q' : Bool → Hp → Prop} {R' : V → Hp → Prop} (h : IfsW C k env e Q' R' ρ H) (hq : ∀ v H, Q' v H → QB v H) (hr : ∀ v H, R' v H → R v H) : IfsW C k env e QB R ρ H := fun A a s S =>
  wpAny_mono (h A a s S) (fun x s' ⟨v, H', q, r⟩ => ⟨v, H', hq _ _ q, r⟩) fun x s' ⟨v, H', q, r⟩ => ⟨v, H', hr _ _ q, r⟩

theorem pure_inv {x p elt ifs scope} {H₁ : Hp} {items : List V} (g : V → Option V) (hx : compVar env scope x = true) (hlen : items.length ≤ 1000)
    (hst : ∀ v ∈ items, ∀ H', Hp.le H₁ H' → PureStep C k env x elt ifs scope ρ g H' v) :
    CompInv C k env elt (.Name x p) ifs scope ρ (fun D r acc H => ∃ done, items = done ++ r ∧ acc = done.filterMap g ∧ H₁ D = none ∧ H = H₁.set D (.list acc)) := by
  constructor
  · rintro D r acc H ⟨done, e1, e2, e3, e4⟩
    refine ⟨by rw [e4, Hp.set_self], ?_⟩
    have : (done.filterMap g).length ≤ done.length := List.length_filterMap_le ..
    have h2 : items.length = done.length + r.length := by rw [e1]; simp
    rw [e2]; omega
  · rintro L D v r acc H ⟨done, e1, e2, e3, rfl⟩
    refine AssignL.name (compVar.kind hx L) ⟨Rho.le_hide (compVar.hide hx), ?_⟩
    refine (hst v (by rw [e1]; simp) (H₁.set D (.list acc)) (Hp.le_set e3) L).conseq ?_ (fun _ _ h => h)
    rintro b H₂ ⟨rfl, hb⟩
    cases b
    · simp only [Bool.false_eq_true, if_false] at hb ⊢
      exact ⟨done ++ [v], by rw [e1]; simp, by rw [e2]; simp [hb], e3, by trivial⟩
    · simp only [if_true] at hb ⊢
      refine hb.conseq ?_ (fun _ _ h => h)
      rintro u H₃ ⟨rfl, hg⟩
      refine ⟨Hp.set_self .., done ++ [v], by rw [e1]; simp, by rw [e2]; simp [hg], e3, ?_⟩
      rw [Hp.set_set]

theorem fz_new {D : Addr} {acc : List V} (hD : H D = none) : Fz (H.set D (.list acc)) (.ref D) (.lst acc) H := by
  refine Fz.of (D := fun a => a = D) (.thaw rfl (Hp.set_self ..) (FzRL_refl acc)) (Hp.le_set hD) ?_
  rintro a rfl; exact hD
where FzRL_refl {H : Hp} {D : Addr → Prop} : ∀ l : List V, FzRL H D l l
  | [] => .nil
  | v :: l => .cons (.refl v) (FzRL_refl l)

/-- ends in a frozen list -/
theorem EvalW.compP {x p elt iter ifs scope pos} (g : V → Option V) (cs : compOk env scope = true) (hd : C.hd = true) (hx : compVar env scope x = true)
    (h : IterE C k env false iter (fun items cond H₁ => items.length ≤ 1000 ∧ (∀ H', Hp.le H₁ H' → cond H') ∧ (∀ v ∈ items, ∀ H', Hp.le H₁ H' → PureStep C k env x elt ifs scope ρ g H' v) ∧ Q (.lst (items.filterMap g)) H₁) R ρ H)
    (hs : ∀ x, foldedSetIterable iter env x = pure x := by intro _; rfl) :
    EvalW C k env (.ListComp elt [⟨.Name x p, iter, ifs, 0⟩] scope pos) Q R ρ H := by
  refine EvalW.comp false cs hd (fun e => by cases e) ?_ hs
  intro A a s S P PE hPE hP
  refine h A a s S P PE hPE ?_
  rintro I wr St items cond H₂ s₂ ⟨h1, h2, h3, h4⟩
  refine hP I wr St items cond H₂ s₂ ⟨_, pure_inv g hx h1 h3, fun D hD => ⟨[], rfl, rfl, hD, rfl⟩, ?_, ?_⟩
  · rintro D r acc H ⟨done, _, _, e3, rfl⟩; exact h2 _ (Hp.le_set e3)
  · rintro D acc H' ⟨done, e1, e2, e3, rfl⟩
    refine ⟨_, _, fz_new e3, ?_⟩
    rw [List.append_nil] at e1
    rw [e2, ← e1]; exact h4
theorem ExecW.assign_compO {y p' x p elt iter ifs scope cpos pos} (g : V → Option V) (hk : env.kindOf y = some .local) (cs : compOk env scope = true) (hd : C.hd = true) (hx : compVar env scope x = true)
    (h : IterE C k env false iter (fun items cond H₁ => items.length ≤ 1000 ∧ (∀ H', Hp.le H₁ H' → cond H') ∧ (∀ v ∈ items, ∀ H', Hp.le H₁ H' → PureStep C k env x elt ifs scope ρ g H' v) ∧ ∀ D, H₁ D = Option.none → QS .next (ρ.set y (.ref D)) (H₁.set D (.list (items.filterMap g)))) (fun v H' => RS v ρ H') ρ H)
    (hsw : swapsWith (.ListComp elt [⟨.Name x p, iter, ifs, 0⟩] scope cpos) (some (.Name y p')) pos.line env = pure true := by rfl)
    (hs : ∀ x, foldedSetIterable iter env x = pure x := by intro _; rfl) :
    ExecW C k env (.Assign [.Name y p'] (.ListComp elt [⟨.Name x p, iter, ifs, 0⟩] scope cpos) pos) QS RS ρ H := by
  refine ExecW.assign_comp false hk cs hd (fun e => by cases e) ?_ hsw hs
  intro A a s S P PE hPE hP
  refine h A a s S P PE hPE ?_
  rintro I wr St items cond H₂ s₂ ⟨h1, h2, h3, h4⟩
  refine hP I wr St items cond H₂ s₂ ⟨_, pure_inv g hx h1 h3, fun D hD => ⟨[], rfl, rfl, hD, rfl⟩, ?_, ?_⟩
  · rintro D r acc H ⟨done, _, _, e3, rfl⟩; exact h2 _ (Hp.le_set e3)
  · rintro D acc H' ⟨done, e1, e2, e3, rfl⟩
    refine ⟨_, _, Fz.refl, ?_⟩
    rw [List.append_nil] at e1
    rw [e2, ← e1]; exact h4 D e3
end Mine

set_option Elab.async false
set_option linter.unusedVariables false
namespace Mine
open PySem PySem.W PyProof.Rows

variable {C : Cx} {k : Nat} {env : Env} {ρ : Rho} {H : Hp} {Q R : V → Hp → Prop} {QB : Bool → Hp → Prop} {QS : Fl → Rho → Hp → Prop} {RS : V → Rho → Hp → Prop}

theorem ite_w {b : Bool} {A B : Prop} (h1 : b = true → A) (h2 : b = false → B) : if b = true then A else B := by
  cases b
  · simpa using h2 rfl
  · simpa using h1 rfl
theorem ite_t {b : Bool} {A B : Prop} (h : b = true) (h1 : A) : if b = true then A else B := by rw [if_pos h]; exact h1
theorem ite_f {b : Bool} {A B : Prop} (h : b = false) (h1 : B) : if b = true then A else B := by rw [if_neg (by rw [h]; decide)]; exact h1

/-- a loop that looks at each item and goes on, or gives an answer -/
def AllQ (ok : Prop) (l0 : List (Str × V)) (H₁ : Hp) (Rt : V → Rho → Hp → Prop) : Fl → Rho → Hp → Prop
  | .next, ρ, H => ok ∧ H = H₁ ∧ Rho.sat l0 ρ
  | .cont, ρ, H => ok ∧ H = H₁ ∧ Rho.sat l0 ρ
  | .brk, _, _ => False
  | .ret u, ρ, H => Rt u ρ H

theorem ExecW.for_all {target iter body pos} (tup : Bool) (hd : C.hd = true) (ht : IsTupleE tup target) (l0 : List (Str × V)) (hl : Rho.sat l0 ρ)
    (h : IterE C k env tup iter (fun items cond H₁ => ∃ p : Nat → Prop, (cond H₁) ∧
      (∀ (i : Nat) v, items[i]? = some v → (∀ j, j < i → p j) → AssignW C k env target v (fun ρ' => ExecsW C k env body (AllQ (p i) l0 H₁ (fun u ρ'' H'' => QS (.ret u) ρ'' H'')) (fun _ _ _ => False) ρ' H₁) (Rho.of l0) H₁) ∧
      ((∀ j, j < items.length → p j) → QS .next (Rho.of l0) H₁)) (fun v H' => RS v ρ H') ρ H)
    (hs : ∀ x, foldedSetIterable iter env x = pure x := by intro _; rfl) : ExecW C k env (.For target iter body [] pos) QS RS ρ H := by
  refine ExecW.for_in tup hd ht ?_ hs
  intro A a s S P PE hPE hP
  refine h A a s S P PE hPE ?_
  rintro I wr St items cond H₁ s₂ ⟨p, hc, step, fin⟩
  refine hP I wr St items cond H₁ s₂ ⟨fun r l H => l = l0 ∧ H = H₁ ∧ ∃ i, r = items.drop i ∧ i ≤ items.length ∧ ∀ j, j < i → p j, ⟨l0, ⟨rfl, rfl, 0, rfl, Nat.zero_le _, fun j hj => absurd hj (Nat.not_lt_zero j)⟩, hl⟩, ?_, ?_, ?_⟩
  · rintro r l H ⟨rfl, rfl, _⟩; exact hc
  · rintro v r l H ⟨rfl, rfl, i, e, hi, hp⟩
    have hv : items[i]? = some v := by
      have := congrArg List.head? e
      simpa [List.head?_drop] using this.symm
    have hlt : i < items.length := (List.getElem?_eq_some_iff.mp hv).1
    have hr : r = items.drop (i + 1) := by
      have := congrArg List.tail e
      simpa [List.tail_drop] using this
    refine (step i v hv hp).conseq fun ρ' hb => hb.conseq fun fl ρ₁ H₁ q => ⟨ρ₁, Rho.le_refl _, ?_⟩
    have nx : ∀ {ρ₁ : Rho} {H₂ : Hp}, p i ∧ H₂ = H ∧ Rho.sat l ρ₁ → ∃ l', (l' = l ∧ H₂ = H ∧ ∃ i, r = items.drop i ∧ i ≤ items.length ∧ ∀ j, j < i → p j) ∧ Rho.sat l' ρ₁ := by
      rintro ρ₁ H₂ ⟨a, rfl, c⟩
      refine ⟨l, ⟨rfl, rfl, i + 1, hr, hlt, fun j hj => ?_⟩, c⟩
      by_cases q : j = i
      · rw [q]; exact a
      · exact hp j (by omega)
    cases fl with
    | next => exact nx q
    | cont => exact nx q
    | brk => exact q.elim
    | ret u => exact q
  · rintro l H ⟨rfl, rfl, i, e, hi, hp⟩
    have hle : items.length ≤ i := by
      have := congrArg List.length e
      simp at this; omega
    exact fin fun j hj => hp j (by omega)

theorem Hp.le_set' {H₀ H : Hp} {a : Addr} {o : O} (h : Hp.le H₀ H) (ha : H₀ a = Option.none) : Hp.le H₀ (H.set a o) := fun b ob e => by
  unfold Hp.set; split
  · rename_i q; subst q; rw [ha] at e; cases e
  · exact h b ob e
end Mine
namespace Mine
open PySem PySem.W PyProof.Rows
variable {C : Cx} {k : Nat} {env : Env} {ρ : Rho} {H : Hp} {Q R : V → Hp → Prop} {QB : Bool → Hp → Prop} {QS : Fl → Rho → Hp → Prop} {RS : V → Rho → Hp → Prop}
theorem Cont.next {rest} (h : ExecsW C k env rest QS RS ρ H) : Cont C k env rest QS RS .next ρ H := h
theorem Cont.ret {rest v} (h : QS (.ret v) ρ H) : Cont C k env rest QS RS (.ret v) ρ H := h
theorem RetQ.here {v} (h : Q v H) : RetQ Q (.ret v) ρ H := ⟨_, _, Fz.refl, h⟩
theorem RetQ.fz {v v' H'} (f : Fz H v v' H') (h : Q v' H') : RetQ Q (.ret v) ρ H := ⟨_, _, f, h⟩
end Mine
namespace Mine
open PySem PySem.W PyProof.Rows
variable {C : Cx} {k : Nat} {env : Env} {ρ : Rho} {H : Hp} {Q R : V → Hp → Prop} {QB : Bool → Hp → Prop} {QS : Fl → Rho → Hp → Prop} {RS : V → Rho → Hp → Prop}
theorem drop_cons {items : List V} {v : V} {r : List V} {i : Nat} (e : v :: r = items.drop i) : items[i]? = some v ∧ r = items.drop (i + 1) ∧ i < items.length := by
  have hv : items[i]? = some v := by
    have := congrArg List.head? e
    simpa [List.head?_drop] using this.symm
  refine ⟨hv, ?_, (List.getElem?_eq_some_iff.mp hv).1⟩
  have := congrArg List.tail e
  simpa [List.tail_drop] using this
theorem drop_nil {items : List V} {i : Nat} (e : [] = items.drop i) : items.length ≤ i := by
  have := congrArg List.length e
  simp at this; omega
theorem PureStep.map {x elt scope} {g : V → Option V} {v : V} {ρ' : Rho} (hρ : ρ' = (Rho.hide scope ρ).set x v) (h : ∀ L, EvalW C k (cenvOf env scope L) elt (fun u H₃ => H₃ = H ∧ g v = some u) (fun _ _ => False) ρ' H) : PureStep C k env x elt [] scope ρ g H v :=
  fun L => IfsW.nil ⟨rfl, by simpa using hρ ▸ h L⟩
end Mine
namespace Mine
open PySem PySem.W PyProof.Rows
theorem Storable.l {env : Env} {x : Str} (h : env.kindOf x = some .local) : Storable env x := Or.inl h
theorem Storable.c {env : Env} {x : Str} (h : env.kindOf x = some .cell) (h' : (env.cells.lookup x).isSome = true) : Storable env x := Or.inr ⟨h, h'⟩
end Mine
namespace Mine
open PySem PySem.W PyProof.Rows
variable {C : Cx} {k : Nat} {env : Env} {ρ : Rho} {H : Hp} {Q R : V → Hp → Prop} {QB : Bool → Hp → Prop} {QS : Fl → Rho → Hp → Prop} {RS : V → Rho → Hp → Prop} {QL : List V → Hp → Prop}
theorem gE {e} (h : EvalW C k env e Q R ρ H) : EvalW C k env e Q R ρ H := h
theorem gName {x p} (h : EvalW C k env (.Name x p) Q R ρ H) : EvalW C k env (.Name x p) Q R ρ H := h
theorem gConst {x c p} (h : EvalW C k env (.Constant x c p) Q R ρ H) : EvalW C k env (.Constant x c p) Q R ρ H := h
theorem gCall {f a b p} (h : EvalW C k env (.Call f a b p) Q R ρ H) : EvalW C k env (.Call f a b p) Q R ρ H := h
theorem gT {e} (h : TestW C k env e QB R ρ H) : TestW C k env e QB R ρ H := h
theorem gS {e} (h : ExecW C k env e QS RS ρ H) : ExecW C k env e QS RS ρ H := h
theorem gX {e} (h : ExecsW C k env e QS RS ρ H) : ExecsW C k env e QS RS ρ H := h
theorem gA {e} (h : ArgsW C k env e QL R ρ H) : ArgsW C k env e QL R ρ H := h
theorem gB {o v w} (h : BinW C k o v w Q R H) : BinW C k o v w Q R H := h
theorem gC {o v w} (h : CmpW C k o v w Q R H) : CmpW C k o v w Q R H := h
end Mine

set_option Elab.async false
set_option linter.unusedVariables false
namespace Mine
open PySem PySem.W PyProof.Rows

variable {C : Cx} {k : Nat} {K : Frag} {env : Env} {ρ : Rho} {H : Hp} {Q R : V → Hp → Prop} {QS : Fl → Rho → Hp → Prop} {RS : V → Rho → Hp → Prop}

/-- values that are handed out as they are -/
def V.plain : V → Bool
  | .con _ => false
  | _ => true
theorem VRel.handed {h : Heap} {H : Hp} {v : V} {x : Value} (r : VRel h H v x) (hv : v.plain = true) : handedIn x = true := by
  cases r <;> first | rfl | cases hv

theorem noRefKey {es : Array DictEntry} (hk : StrKeys es) : es.any (·.refKey) = false := by
  rw [Array.any_eq_false']; intro e he; obtain ⟨n, t, h⟩ := hk e he; simp [DictEntry.refKey, h]
theorem lookIn_ns {o : Obj} {es : Array DictEntry} {ep : Nat} {name : Str} (hd : o.data = .dict es ep) (hk : StrKeys es) : lookIn name o = some (nsFind es name) := by
  have h2 := noRefKey hk
  rw [← Array.any_toList] at h2
  unfold lookIn nsFind findBy
  rw [hd]
  dsimp only
  rw [← Array.find?_toList]
  cases hf : es.toList.find? (fun e => e.key.isStr name) with
  | some e => rfl
  | none => simp [h2]

theorem putName_ns {o : Obj} {es : Array DictEntry} {ep : Nat} (hd : o.data = .dict es ep) (hk : StrKeys es) (name : Str) (hash : Int) (t : Tok) (v : Value) :
    ∃ es' ep', (Obj.putName name hash (.str name t) v o).data = .dict es' ep' ∧ StrKeys es' ∧ (∀ x, nsFind es' x = if x = name then some v else nsFind es x) ∧ es'.size ≤ es.size + 1 ∧ ((nsFind es name).isSome = true → es'.size = es.size) := by
  obtain ⟨c, d, dt, sl⟩ := o
  simp only at hd
  subst hd
  cases hi : es.findIdx? (·.key.isStr name) with
  | some i =>
    refine ⟨_, ep, by simp only [Obj.putName_eq, Obj.putNameByArray, hi], hk.modify _ _, fun x => findBy_modify (fun n v => v.isStr n) Value.isStr_inj es name x v i hi, by simp, fun _ => by simp⟩
  | none =>
    refine ⟨_, ep + 1, by simp only [Obj.putName_eq, Obj.putNameByArray, hi]; rfl, hk.push _ _ _ _, fun x => findBy_push (fun n v => v.isStr n) es name x _ _ v (fun y => by
      show (name == y) = decide (y = name)
      by_cases h : y = name
      · subst h; simp
      · have : ¬ name = y := fun e => h e.symm
        simp [h, this]) hi, by simp, fun q => ?_⟩
    unfold nsFind findBy at q
    have : es.find? (fun e => e.key.isStr name) = Option.none := by
      rw [Array.find?_eq_none]; intro e he
      simpa using (Array.findIdx?_eq_none_iff.mp hi) e he
    rw [this] at q; cases q

theorem PCx.at (P : PCx C K) {s : Shared} (S : Sim C H s) : K.In s.heap := fun b o e => S.keep b o (P.X b o e)

def AttrW (C : Cx) (k : Nat) (v : V) (name : Str) (Q R : V → Hp → Prop) (H : Hp) : Prop :=
  ∀ A, Lv C k A → ∀ s x, Sim C H s → VRel s.heap H v x → wpAny C.M A (getAttr x name true) (Post C H s.heap VRel Q) (Post C H s.heap VRel R) s
theorem EvalW.attr {o name pos} (h : EvalW C k env o (fun v H₁ => AttrW C k v name Q R H₁) R ρ H)
    (he : eval (.Attribute o name pos) env = (do
      let x ← eval o env
      standAt pos.atName
      let r ← holding [x] (getAttr x name true)
      letTemporaryGo o x r
      pure r) := by with_unfolding_all rfl) : EvalW C k env (.Attribute o name pos) Q R ρ H := fun A a s S =>
  Attribute_any_ (wp_go (h A a s S) fun x v H₁ s₁ h₁ S₁ r₁ E₁ => wp_fin E₁ (h₁ A a s₁ x S₁ r₁)) he

theorem OptRel.get {h : Heap} {H : Hp} {v : V} {o : Option Value} (r : OptRel h H (some v) o) : ∃ u, o = some u ∧ VRel h H v u := by
  cases o with
  | none => exact r.elim
  | some u => exact ⟨u, rfl, r⟩
def SetAttrW (C : Cx) (k : Nat) (v : V) (name : Str) (u : V) (Q : Hp → Prop) (R : V → Hp → Prop) (H : Hp) : Prop :=
  ∀ A, Lv C k A → ∀ s x z, Sim C H s → VRel s.heap H v x → VRel s.heap H u z → wpAny C.M A (setAttr x name z) (Post C H s.heap (fun _ _ (_ _ : Unit) => True) (fun _ H' => Q H')) (Post C H s.heap VRel R) s
theorem ExecW.assign_attr {o attr p' e p} (h : EvalW C k env e (fun u H₁ => EvalW C k env o (fun v H₂ => SetAttrW C k v attr u (fun H₃ => QS .next ρ H₃) (fun w H' => RS w ρ H') H₂) (fun w H' => RS w ρ H') ρ H₁) (fun w H' => RS w ρ H') ρ H)
    (hs : swapsWith e (some (.Attribute o attr p')) p.line env = pure false := by rfl) : ExecW C k env (.Assign [.Attribute o attr p'] e p) QS RS ρ H := fun A a s S => by
  refine plainObj_wpAny_Assign_Attribute (wp_go (h A a s S) (fun z u H₁ s₁ h₁ S₁ r₁ E₁ => ?_) fun _ _ p => p.toX S) hs
  refine wp_go (h₁ A a s₁ (S.ext S₁ E₁)) (fun x v H₂ s₂ h₂ S₂ r₂ E₂ => ?_) fun _ _ p => (p.after E₁).toX S
  refine wpAny_mono (h₂ A a s₂ x z S₂ r₂ (r₁.ext E₂)) ?_ fun _ _ p => (p.after (E₁.trans E₂)).toX S
  rintro _ s₄ ⟨_, H₄, q, S₄, _, E₄⟩
  have E := (E₁.trans E₂).trans E₄
  exact ⟨.next, ρ, H₄, q, trivial, S.ext S₄ E, E.toF⟩

/-- a class is called -/
theorem Plainly.cls (P : PCx C K) {c : Addr} (hk : keepIn K (.ref c) = true) : Plainly C (.ref c) := fun A E Q s first pos args hp h =>
  callWith_of (P := fun h => K.In h) (by rw [hp]; rfl) (keeps_K hk) (evalArgs_any hp (wpAny_mono h (fun vs s₁ x => ⟨fun b o e => x.1 b o (P.X b o e), x.2⟩) fun _ _ x => x))

theorem under_typeCall (A : Around) (c : Addr) (rest : List Value) (kw : List (Str × Value)) : (Code.builtin "type.__call__" ⟨.ref c :: rest, kw⟩).weight = 1 ∧ (Code.builtin "type.__call__" ⟨.ref c :: rest, kw⟩).cUnits = 1 := ⟨by with_unfolding_all rfl, by with_unfolding_all rfl⟩
end Mine

set_option Elab.async false
set_option linter.unusedVariables false
namespace Mine
open PySem

abbrev Wt := Option (Bool × List Nat)
def nv (n : Nat) : V := .int n
def wv : Wt → V
  | none => .none
  | some (b, l) => .tup [.str (Str.ofString (if b = true then "all" else "any")), .lst (l.map nv)]
def WOk (m : Nat) : Wt → Prop
  | none => True
  | some (_, l) => l ≠ [] ∧ l.Nodup ∧ (∀ x ∈ l, x < m) ∧ l.length ≤ 100

def cellV (ns : List Int) (i : Int) : Int := ns.getD i.toNat 0
/- ints in lists -/
theorem datL_nv (l : List Nat) : datL (l.map nv) = (l.map fun (n : Nat) => (n : Int)).map PyData.int := by
  induction l with
  | nil => rfl
  | cons x l ih => simp only [List.map_cons, datL, ih, nv, V.dat]
theorem pureL_nv (l : List Nat) : pureL (l.map nv) = true := by
  induction l with
  | nil => rfl
  | cons x l ih => simp only [List.map_cons, pureL, ih, nv, V.pure]; rfl
end Mine
namespace Mine
open PySem PySem.W PyProof.Rows
variable {C : Cx} {k : Nat} {env : Env} {ρ : Rho} {H : Hp} {Q R : V → Hp → Prop}

theorem okD_ints (l : List Int) : okD (.list (l.map .int)) = true := by
  have a : PyData.canLayAll0 (l.map .int) = true := by
    induction l with
    | nil => rfl
    | cons x l ih => simp only [List.map_cons, PyData.canLayAll0, PyData.canLay0, ih]; rfl
  have b : PyData.depthAll (l.map .int) ≤ 1 := by
    induction l with
    | nil => simp [PyData.depthAll]
    | cons x l ih =>
      simp only [List.map_cons, PyData.canLayAll0, PyData.canLay0, Bool.true_and] at a
      have := ih a
      simp only [List.map_cons, PyData.depthAll, PyData.depth]; omega
  unfold okD SeqAt.shaped
  simp only [PyData.canLay0, PyData.depth, a]
  simp; omega
theorem eqvAll_ints : ∀ l l' : List Int, PyData.eqvAll (l.map .int) (l'.map .int) = (l == l')
  | [], [] => rfl
  | [], _ :: _ => rfl
  | _ :: _, [] => rfl
  | x :: l, y :: l' => by
    simp only [List.map_cons, PyData.eqvAll, PyData.eqv, eqvAll_ints l l']; rfl
theorem see_of {v : V} {l : List V} (h : lview H v = some l) : see H v = .lst l := by
  cases v with
  | lst l' => cases h; rfl
  | ref a =>
    simp only [lview, see] at h ⊢
    split at h
    · rename_i e; cases h; first | rfl | rw [e]
    · cases h
  | _ => cases h
theorem ints_eq (l l' : List Nat) : ((l.map fun (n : Nat) => (n : Int)) == (l'.map fun (n : Nat) => (n : Int))) = (l == l') := by
  rw [Bool.eq_iff_iff, beq_iff_eq, beq_iff_eq]
  constructor
  · intro h
    exact (List.map_inj_right (fun x y e => Int.ofNat.inj e)).mp h
  · rintro rfl; rfl
theorem eqv_nv (l l' : List Nat) : PyData.eqv (.list (datL (l.map nv))) (.list (datL (l'.map nv))) = (l == l') := by
  rw [datL_nv, datL_nv, PyData.eqv, eqvAll_ints, ints_eq]
theorem CmpW.eqN {v w : V} {l l' : List Nat} (hv : lview H v = some (l.map nv)) (hw : lview H w = some (l'.map nv)) (h : Q (.bool (l == l')) H) : CmpW C k .Eq v w Q R H := by
  have e1 := see_of hv
  have e2 := see_of hw
  refine CmpW.eq ?_ ?_ ?_ ?_ ?_ <;> simp only [e1, e2, V.pure, V.dat, pureL_nv]
  · rw [datL_nv]; exact okD_ints _
  · rw [datL_nv]; exact okD_ints _
  · rw [eqv_nv]; exact h
theorem countIn_nv (i : Int) (h0 : 0 ≤ i) (l : List Nat) : decide (PySem.Spec.countIn (.int i) (datL (l.map nv)) ≠ 0) = decide (i.toNat ∈ l) := by
  rw [datL_nv, countIn_ints_count]
  rw [decide_eq_decide]
  have : (List.count i (l.map fun (n : Nat) => (n : Int)) ≠ 0) ↔ i ∈ (l.map fun (n : Nat) => (n : Int)) := by
    rw [← List.count_pos_iff]; omega
  have h2 : i ∈ (l.map fun (n : Nat) => (n : Int)) ↔ i.toNat ∈ l := by
    rw [List.mem_map]
    constructor
    · rintro ⟨x, hx, rfl⟩; simpa using hx
    · intro h; exact ⟨_, h, by omega⟩
  rw [← h2, ← this]
  omega
theorem noMix_nv (i : Int) (l : List Nat) : ∀ y ∈ datL (l.map nv), SeqAt.noMix y (.int i) = true := by
  rw [datL_nv]
  intro y hy
  simp at hy
  obtain ⟨a, _, rfl⟩ := hy
  rfl
theorem CmpW.notInN {w : V} {i : Int} {l : List Nat} (hw : lview H w = some (l.map nv)) (h0 : 0 ≤ i) (h : Q (.bool (!decide (i.toNat ∈ l))) H) : CmpW C k .NotIn (.int i) w Q R H := by
  refine CmpW.notInList hw (pureL_nv l) rfl (by rw [datL_nv]; exact okD_ints _) rfl (noMix_nv i l) ?_
  rw [show (see H (.int i)).dat = PyData.int i from rfl, countIn_nv i h0]; exact h
theorem lview_nv0 : lview H (.lst []) = some (([] : List Nat).map nv) := rfl
end Mine
namespace Mine
end Mine
namespace Mine
end Mine
namespace Mine
def gN (g : Nat → Option V) : V → Option V
  | .int i => g i.toNat
  | _ => none
theorem gN_nv (g : Nat → Option V) (n : Nat) : gN g (.int ((n : Nat) : Int)) = g n := by simp [gN]
theorem fm_gN (g : Nat → Option V) (l : List Nat) : (l.map nv).filterMap (gN g) = l.filterMap g := by
  rw [List.filterMap_map]
  congr 1
theorem rangeV_nv (n : Nat) : rangeV n = (List.range n).map nv := rfl
theorem fm_map (f : Nat → V) (l : List Nat) : l.filterMap (fun n => some (f n)) = l.map f := by
  rw [List.filterMap_eq_map']
end Mine

set_option linter.unusedVariables false
namespace Mine

/- what the rounds say -/
end Mine

set_option linter.unusedVariables false
namespace Mine
open PySem PySem.W PyProof.Rows
variable {C : Cx} {k : Nat} {env : Env} {ρ : Rho} {H : Hp} {Q R : V → Hp → Prop} {QB : Bool → Hp → Prop} {QS : Fl → Rho → Hp → Prop} {RS : V → Rho → Hp → Prop}
/-- one statement, and what is known behind it -/
def SeqQ (X : List (Str × V) → Hp → Prop) (QS : Fl → Rho → Hp → Prop) : Fl → Rho → Hp → Prop
  | .next, ρ, H => ∃ l, X l H ∧ Rho.sat l ρ
  | .cont, ρ, H => QS .cont ρ H
  | .brk, ρ, H => QS .brk ρ H
  | .ret u, ρ, H => QS (.ret u) ρ H
theorem ExecsW.seq {st rest} (X : List (Str × V) → Hp → Prop) (h : ExecW C k env st (SeqQ X QS) RS ρ H) (h2 : ∀ l H', X l H' → ExecsW C k env rest QS RS (Rho.of l) H') : ExecsW C k env (st :: rest) QS RS ρ H := by
  refine ExecsW.cons ?_
  intro A a s S
  refine wpAny_mono (h A a s S) ?_ fun _ _ p => p
  rintro f s' ⟨fl, ρ', H', q, r, S', E⟩
  cases fl with
  | next => obtain ⟨l, x, hs⟩ := q; exact ⟨.next, Rho.of l, H', h2 l H' x, r, S'.weaken hs.le, E⟩
  | cont => exact ⟨.cont, ρ', H', q, r, S', E⟩
  | brk => exact ⟨.brk, ρ', H', q, r, S', E⟩
  | ret u => exact ⟨.ret u, ρ', H', q, r, S', E⟩
end Mine

set_option linter.unusedVariables false
namespace Mine
/- the laws' ways to make waits, with their numbers left open -/
def mixG (a b m : Int) (ns : List Int) (i j : Int) : Int := (cellV ns i * a + j * b) % m
theorem mixG_range (a b m : Int) (hm : 0 < m) (ns i j) : 0 ≤ mixG a b m ns i j ∧ mixG a b m ns i j < m := ⟨Int.emod_nonneg _ (by omega), Int.emod_lt_of_pos _ hm⟩
def moreG (c1 c2 n s f : Int) (k : Nat) : Nat := ((f + 1 + n / (c1 + c2 * (k : Int)) % s) % s).toNat
def othersG (d c1 c2 n s : Int) : Nat → List Nat
  | 0 => [(n / d % s).toNat]
  | k + 1 => let l := othersG d c1 c2 n s k; let m := moreG c1 c2 n s (n / d % s) k; if m ∈ l then l else l ++ [m]
theorem othersG_head (d c1 c2 n s : Int) : ∀ k, ∃ t, othersG d c1 c2 n s k = (n / d % s).toNat :: t
  | 0 => ⟨[], rfl⟩
  | k + 1 => by
    obtain ⟨t, e⟩ := othersG_head d c1 c2 n s k
    simp only [othersG]
    split
    · exact ⟨t, e⟩
    · rw [e]; exact ⟨t ++ [_], rfl⟩
theorem othersG_len (d c1 c2 n s : Int) : ∀ k, (othersG d c1 c2 n s k).length ≤ k + 1
  | 0 => by simp [othersG]
  | k + 1 => by
    have := othersG_len d c1 c2 n s k
    simp only [othersG]
    split
    · omega
    · simp; omega
theorem othersG_nodup (d c1 c2 n s : Int) : ∀ k, (othersG d c1 c2 n s k).Nodup
  | 0 => by simp [othersG]
  | k + 1 => by
    have := othersG_nodup d c1 c2 n s k
    simp only [othersG]
    split
    · exact this
    · rename_i h
      rw [List.nodup_append]
      refine ⟨this, by simp, ?_⟩
      intro a ha b hb
      simp at hb; subst hb
      intro q; subst q; exact h ha
theorem emod_toNat_lt (x : Int) (s : Nat) (hs : 0 < s) : (x % (s : Int)).toNat < s := by
  have := Int.emod_lt_of_pos x (b := (s : Int)) (by omega)
  have := Int.emod_nonneg x (b := (s : Int)) (by omega)
  omega
theorem othersG_lt (d c1 c2 n : Int) (s : Nat) (hs : 0 < s) : ∀ k, ∀ x ∈ othersG d c1 c2 n s k, x < s
  | 0 => by
    intro x hx
    simp [othersG] at hx; subst hx
    exact emod_toNat_lt _ s hs
  | k + 1 => by
    intro x hx
    simp only [othersG] at hx
    split at hx
    · exact othersG_lt d c1 c2 n s hs k x hx
    · rw [List.mem_append] at hx
      rcases hx with hx | hx
      · exact othersG_lt d c1 c2 n s hs k x hx
      · simp at hx; subst hx
        exact emod_toNat_lt _ s hs
theorem waitG_ok (b : Bool) (d c1 c2 n : Int) (s k : Nat) (hs : 0 < s) (hk : k ≤ 50) : WOk s (some (b, othersG d c1 c2 n s k)) := by
  refine ⟨?_, othersG_nodup .., othersG_lt d c1 c2 n s hs _, by have := othersG_len d c1 c2 n s k; omega⟩
  obtain ⟨t, e⟩ := othersG_head d c1 c2 n s k
  rw [e]; simp
end Mine

set_option Elab.async false
set_option linter.unusedVariables false
set_option maxRecDepth 100000
namespace Mine
open PySem PySem.W PyProof.Rows

section
variable {prog : Program} {w : World} {A : Around} {E : Value → Shared → Prop} {s : Shared}

end

variable {C : Cx} {k : Nat} {env : Env} {ρ : Rho} {H : Hp} {Q R : V → Hp → Prop}
end Mine

set_option Elab.async false
set_option linter.unusedVariables false
namespace Mine
open PySem PySem.W PyProof.Rows

variable {C : Cx} {k : Nat} {env : Env} {ρ : Rho} {H : Hp} {Q R : V → Hp → Prop}

end Mine

set_option linter.unusedVariables false
namespace Mine
open PySem PySem.W PyProof.Rows
variable {C : Cx} {k : Nat} {env : Env} {ρ : Rho} {H : Hp} {Q R : V → Hp → Prop}

def S_cell : SpecT := fun args Q R H => ∃ (ns : List Int) (i : Int), args = [.lst (ns.map .int), .int i] ∧ 0 ≤ i ∧ ns.length ≤ 100 ∧ Q (.int (cellV ns i)) H
def S_mixG (a b m : Int) : SpecT := fun args Q R H => ∃ (ns : List Int) (i j : Int), args = [.lst (ns.map .int), .int i, .int j] ∧ 0 ≤ i ∧ ns.length ≤ 100 ∧ Q (.int (mixG a b m ns i j)) H
def S_is_place : SpecT := fun args Q R H => ∃ (i m : Int), args = [.int i, .int m] ∧ Q (.bool (decide (0 ≤ i) && decide (i < m))) H
def S_is_wait : SpecT := fun args Q R H => ∃ (w : Wt) (m : Nat), args = [wv w, .int m] ∧ WOk m w ∧ Q (.bool true) H
def WsOk (W : List Wt) : Prop := 0 < W.length ∧ W.length ≤ 40 ∧ ∀ w ∈ W, WOk W.length w
theorem enumV_length {l : List V} : (enumV l).length = l.length := enumFrom_length

/- waits as data -/
theorem wv_pure (w : Wt) : (wv w).pure = true := by
  cases w with
  | none => rfl
  | some bl => obtain ⟨b, l⟩ := bl; simp only [wv, V.pure, pureL, pureL_nv]; rfl
theorem okD_parts {d : PyData} (h : okD d = true) : d.canLay0 = true ∧ d.depth ≤ 64 := by
  unfold okD SeqAt.shaped at h; simpa using h
theorem okD_of {d : PyData} (h1 : d.canLay0 = true) (h2 : d.depth ≤ 64) : okD d = true := by
  unfold okD SeqAt.shaped; simp [h1, h2]
theorem wv_lay (w : Wt) : (wv w).dat.canLay0 = true ∧ (wv w).dat.depth ≤ 5 := by
  cases w with
  | none => exact ⟨rfl, by decide⟩
  | some bl =>
    obtain ⟨b, l⟩ := bl
    have hd : (wv (some (b, l))).dat = .tuple [.str (Str.ofString (if b = true then "all" else "any")), .list ((l.map fun (n : Nat) => (n : Int)).map PyData.int)] := by
      simp only [wv, V.dat, datL, datL_nv]
    have hl := okD_parts (okD_ints (l.map fun (n : Nat) => (n : Int)))
    have hdep : PyData.depthAll ((l.map fun (n : Nat) => (n : Int)).map PyData.int) ≤ 1 := by
      generalize (l.map fun (n : Nat) => (n : Int)) = ns
      clear hl hd
      induction ns with
      | nil => simp [PyData.depthAll]
      | cons x l ih => simp only [List.map_cons, PyData.depthAll, PyData.depth]; omega
    rw [hd]
    refine ⟨?_, ?_⟩
    · simp only [PyData.canLay0, PyData.canLayAll0]
      have := hl.1
      simp only [PyData.canLay0] at this
      rw [this]
      cases b <;> decide +kernel
    · simp only [PyData.depth, PyData.depthAll]; omega
mutual
theorem eqv_refl : ∀ d : PyData, d.canLay0 = true → PyData.eqv d d = true
  | .none, _ => rfl
  | .bool b, _ => by simp [PyData.eqv]
  | .int b, _ => by simp [PyData.eqv]
  | .str b, _ => by simp [PyData.eqv]
  | .list xs, h => by simp only [PyData.canLay0] at h; simp only [PyData.eqv]; exact eqvAll_refl xs h
  | .tuple xs, h => by simp only [PyData.canLay0] at h; simp only [PyData.eqv]; exact eqvAll_refl xs h
  | .dict _, h => by simp [PyData.canLay0] at h
theorem eqvAll_refl : ∀ d : List PyData, PyData.canLayAll0 d = true → PyData.eqvAll d d = true
  | [], _ => rfl
  | x :: xs, h => by
    simp only [PyData.canLayAll0, Bool.and_eq_true] at h
    simp only [PyData.eqvAll, eqv_refl x h.1, eqvAll_refl xs h.2]; rfl
end
end Mine

set_option Elab.async false
set_option linter.unusedVariables false
namespace Mine
open PySem PySem.W PyProof.Rows

variable {C : Cx} {k : Nat} {K : Frag} {env : Env} {ρ : Rho} {H : Hp} {Q R : V → Hp → Prop} {QS : Fl → Rho → Hp → Prop} {RS : V → Rho → Hp → Prop}

/- list methods that change the list -/
theorem listUpd {s : Shared} {a : Addr} {l l' : List V} {xs : Array Value} {n : Nat} {f : Array Value → Array Value} (S : Sim C H s) (ha : H a = some (.list l)) (ho : s.heap.get? a = some { cls := .type "list", data := .seq xs n })
    (hr : ∀ h' H', ExtV H s.heap H' h' → VRelL h' H' l' (f xs).toList) : Sim C (H.set a (.list l')) { s with heap := s.heap.update a (Obj.mapSeq f) } ∧ Ext H s.heap (H.set a (.list l')) (s.heap.update a (Obj.mapSeq f)) := by
  obtain ⟨n', e1⟩ : ∃ n', Obj.mapSeq f { cls := .type "list", data := .seq xs n } = { cls := .type "list", data := .seq (f xs) n' } := ⟨_, rfl⟩
  have hs := Heap.SameBut.update s.heap a (Obj.mapSeq f)
  have hl' : (s.heap.update a (Obj.mapSeq f)).PlainList a (f xs) := ⟨n', by rw [Heap.get?_update_self _ ho (by rw [e1]; rfl), e1]⟩
  generalize s.heap.update a (Obj.mapSeq f) = h' at hs hl'
  have hex : ∃ ob, h'.get? a = some ob := let ⟨_, e⟩ := hl'; ⟨_, e⟩
  have hne : ∀ b, H b = none → b ≠ a := fun b e q => by subst q; rw [ha] at e; cases e
  have E0 : ExtV H s.heap (H.set a (.list l')) h' := fun b ob _ _ e _ n => ⟨.of ((hs.2 b (hne b n)).trans e), by unfold Hp.set; rw [if_neg (hne b n)]; exact n⟩
  exact S.update (s' := { s with heap := h' }) (o' := .list l') ha hs hex rfl rfl ⟨_, hl', hr _ _ E0⟩

/- dicts with str keys -/
/- a display with str keys -/
/- update -/
end Mine

set_option Elab.async false
set_option linter.unusedVariables false
namespace Mine
open PySem PyProof.Rows
variable {C : Cx} {H : Hp} {s : Shared} {A : Around} {env : Env} {l : List Env}

theorem funFrames_of {h : Heap} (F : FrOK C H h) (e : C.frs = some l) : h.FunFrames C.base l := by
  have : ∀ l', (∀ x ∈ l', x ∈ l) → h.FunFrames C.base l' := by
    intro l'
    induction l' with
    | nil => intro _; trivial
    | cons x r ih =>
      intro hm
      obtain ⟨q, L, o, e1, e2, e3, e4, es, ep, e5⟩ := F l e x (hm x (.head _))
      exact ⟨q, ⟨L, o, e1, e2, e4, fun vs z => by rw [e5] at z; cases z⟩, ih fun y hy => hm y (.tail _ hy)⟩
  exact this l fun _ h => h
theorem frames_mem {h : Heap} (F : FrOK C H h) (e : C.frs = some l) {b : Addr} (hb : b ∈ l.filterMap (·.frame)) : C.base.get? b = none ∧ H b = none ∧ ∃ o es ep, h.get? b = some o ∧ o.data = .dict es ep := by
  obtain ⟨x, hx, hf⟩ := List.mem_filterMap.mp hb
  obtain ⟨q, L, o, e1, e2, e3, e4, es, ep, e5⟩ := F l e x hx
  have hf : x.frame = some b := hf
  rw [e1] at hf; cases hf
  exact ⟨e2, e3, o, es, ep, e4, e5⟩

/-- slots of frames alone were changed -/
theorem Sim.slots {h₁ : Heap} (S : Sim C H s) (e : C.frs = some l) (hs : Heap.SlotsOnly (l.filterMap (·.frame)) s.heap h₁) : Sim C H { s with heap := h₁ } ∧ Ext H s.heap H h₁ := by
  have nf : ∀ b o, s.heap.get? b = some o → (∀ es ep, o.data ≠ .dict es ep) → h₁.get? b = some o := fun b o eb nd => by
    rw [hs.2.1 b fun hm => ?_]
    · exact eb
    · obtain ⟨_, _, o', es, ep, e', d⟩ := frames_mem S.frs e hm
      rw [eb] at e'; cases e'; exact nd _ _ d
  have up : ∀ b o, s.heap.get? b = some o → UpS o h₁ b := fun b o eb => by
    by_cases q : ∃ es ep, o.data = .dict es ep
    · obtain ⟨es, ep, d⟩ := q
      obtain ⟨sl, e'⟩ := hs.2.2 b o eb
      exact ⟨sl, e', fun n => absurd d (n _ _)⟩
    · exact .of (nf b o eb fun es ep d => q ⟨es, ep, d⟩)
  have E : Ext H s.heap H h₁ := ⟨fun b o eb _ => up b o eb, fun _ _ _ n => n, fun b o eb => let ⟨_, e', _⟩ := up b o eb; ⟨_, e'⟩⟩
  refine ⟨⟨fun b o eb => ?_, S.gens, S.os, fun b o eb => ?_, S.new, ?_⟩, E⟩
  · rw [show h₁.get? b = s.heap.get? b from hs.2.1 b fun hm => by rw [(frames_mem S.frs e hm).1] at eb; cases eb]
    exact S.keep b o eb
  · exact (S.objs b o eb).same E.v (hs.2.1 b fun hm => by rw [(frames_mem S.frs e hm).2.1] at eb; cases eb)
  · refine S.frs.same fun L o es ep eL n d => ⟨n, ?_⟩
    obtain ⟨sl, e'⟩ := hs.2.2 L o eL
    exact ⟨_, es, ep, e', d⟩

theorem exc_set {T : Option Addr} {c e : Addr} {d : Option Addr} {h h' : Heap} {H H' : Hp} {x : Option Addr} (r : ORel C h H e (.exc c d T)) (he : h'.get? e = (h.get? e).map (Obj.mapFields (·.setIfInBounds 1 (x.elim .none .ref)))) : ORel C h' H' e (.exc c d x) := by
  obtain ⟨o, vs, e1, e2, e3, e4, e5, e6⟩ := r
  rw [e1, Option.map_some] at he
  obtain ⟨c0, d0, dt, sl⟩ := o
  dsimp only at e2 e3 e4
  subst e4
  exact ⟨_, _, he, e2, e3, rfl, by simpa using e5, by simp [show 1 < vs.size by omega]⟩

/-- the frame is written down behind the exception -/
theorem note_W {L e c : Addr} {d T0 : Option Addr} {Q : Unit → Shared → Prop} {E : Value → Shared → Prop} (hA : A.frames = some (env :: l)) (hC : C.frs = some (env :: l)) (hf : env.frame = some L) (S : Sim C H s) (he : H e = some (.exc c d T0))
    (hT : ∀ T, T0 = some T → H T = some (.tb none))
    (h : ∀ s' T', H T' = none → Sim C ((H.set T' (.tb (some L))).set e (.exc c d (some T'))) s' → Ext H s.heap ((H.set T' (.tb (some L))).set e (.exc c d (some T'))) s'.heap → Q () s') : wpAny C.M A (noteFrame (.ref e) env) Q E s := by
  obtain ⟨oe, vs, e1, e2, e3, e4, e5, e6⟩ := S.objs _ _ he
  have core : ∀ (s : Shared) (head : Value) (hn : Bool), Sim C H s → (∀ s' T', H T' = none → Sim C ((H.set T' (.tb (some L))).set e (.exc c d (some T'))) s' → Ext H s.heap ((H.set T' (.tb (some L))).set e (.exc c d (some T'))) s'.heap → Q () s') →
      wpAny C.M A (do let a ← frameOf env; let pl ← entryPlaceOf L hn; let b ← EntryCells.newEntry head a .none (rawInt L) .none pl; setField (.ref e) 1 b) Q E s := by
    intro s head hn S h
    obtain ⟨oe, vs, e1, e2, e3, e4, e5, e6⟩ := S.objs _ _ he
    refine wpAny_bind (wpAny_frameOf_fun hA (funFrames_of S.frs hC) hf fun h₁ hs₁ => ?_)
    obtain ⟨S1, E1⟩ := S.slots hC hs₁
    refine wpAny_bind (wpAny_entryPlaceOf fun pl hpl => ?_)
    unfold EntryCells.newEntry newFields
    refine wpAny_bind (wpAny_newObj_type ?_ (hpl.sizeOk5 _ _ _ _ _))
    have he1 : h₁.get? e = some oe := (hs₁.2.1 e fun hm => by rw [(frames_mem S.frs hC hm).2.1] at he; cases he).trans e1
    have hk : ∀ b o, h₁.get? b = some o → (h₁.push { cls := .type "traceback", dict := none, data := .fields ([head, .ref L, .none, rawInt L, .none] ++ (if pl.isEmpty then List.replicate 6 Value.none else pl)).toArray }).get? b = some o := fun b o eb => Heap.get?_push_of_some _ eb
    obtain ⟨S2, E2⟩ := S1.alloc (s' := { s with heap := h₁.push { cls := .type "traceback", dict := none, data := .fields ([head, .ref L, .none, rawInt L, .none] ++ (if pl.isEmpty then List.replicate 6 Value.none else pl)).toArray } }) (o := .tb (some L)) hk rfl rfl
      ⟨_, _, Heap.get?_push_size _ rfl, rfl, by first | (simp; done) | (rcases hpl with rfl | ⟨_, _, _, _, _, _, _, rfl⟩ <;> simp)⟩
    have hfr : H h₁.objs.size = none := S1.fresh (Nat.le_refl _)
    have hne : e ≠ h₁.objs.size := Nat.ne_of_lt (Heap.lt_size he1)
    have he2 : (H.set h₁.objs.size (.tb (some L))) e = some (.exc c d T0) := by unfold Hp.set; rw [if_neg hne]; exact he
    have heh := hk _ _ he1
    refine wpAny_setField heh e4 (by omega) ?_
    have hs2 : Heap.SameBut e (h₁.push { cls := .type "traceback", dict := none, data := .fields ([head, .ref L, .none, rawInt L, .none] ++ (if pl.isEmpty then List.replicate 6 Value.none else pl)).toArray }) ((h₁.push { cls := .type "traceback", dict := none, data := .fields ([head, .ref L, .none, rawInt L, .none] ++ (if pl.isEmpty then List.replicate 6 Value.none else pl)).toArray }).update e (Obj.mapFields (·.setIfInBounds 1 (Value.ref h₁.objs.size)))) := .update ..
    have hd3 := Obj.data_mapFields e4 (·.setIfInBounds 1 (Value.ref h₁.objs.size))
    have he3 := Heap.get?_update_self (Obj.mapFields (·.setIfInBounds 1 (Value.ref h₁.objs.size))) heh (Obj.isFreed_of_fields hd3)
    obtain ⟨S3, E3⟩ := S2.update (s' := { s with heap := (h₁.push { cls := .type "traceback", dict := none, data := .fields ([head, .ref L, .none, rawInt L, .none] ++ (if pl.isEmpty then List.replicate 6 Value.none else pl)).toArray }).update e (Obj.mapFields (·.setIfInBounds 1 (Value.ref h₁.objs.size))) }) (o' := .exc c d (some h₁.objs.size)) he2 hs2 ⟨_, he3⟩ rfl rfl
      (exc_set (x := some h₁.objs.size) (S2.objs _ _ he2) (by rw [heh, he3]; rfl))
    exact h _ h₁.objs.size hfr S3 ((E1.trans E2).trans E3)
  cases T0 with
  | none =>
    have e6 : vs[1]? = some .none := e6
    unfold noteFrame
    simp only [hf]
    refine wpAny_bind (wpAny_field e1 e4 e6 ?_)
    rw [if_neg (by decide)]
    exact core s _ _ S h
  | some T =>
    have e6 : vs[1]? = some (.ref T) := e6
    have hTb := hT T rfl
    obtain ⟨oT, ts, t1, t2, t3⟩ := S.objs _ _ hTb
    have t3 : ts[3]? = some .none := t3
    unfold noteFrame
    simp only [hf]
    refine wpAny_bind (wpAny_field e1 e4 e6 ?_)
    rw [if_pos (show (Value.ref T != Value.none) = true from by simp)]
    refine wpAny_bind (wpAny_field t1 t2 t3 ?_)
    rw [if_neg (show ¬ ((Value.none == rawInt L) = true) from by simp [rawInt])]
    refine wpAny_bind (wpAny_setField t1 t2 (Array.getElem?_eq_some_iff.mp t3).1 ?_)
    have hd3 := Obj.data_mapFields t2 (·.setIfInBounds 3 Value.none)
    have ht3 := Heap.get?_update_self (Obj.mapFields (·.setIfInBounds 3 Value.none)) t1 (Obj.isFreed_of_fields hd3)
    obtain ⟨S1, E1⟩ := S.update (s' := { s with heap := s.heap.update T (Obj.mapFields (·.setIfInBounds 3 Value.none)) }) (o' := .tb none) hTb (.update ..) ⟨_, ht3⟩ rfl rfl
      ⟨_, _, ht3, hd3, by simp [(Array.getElem?_eq_some_iff.mp t3).1]⟩
    have hset : H.set T (.tb none) = H := by
      funext b; unfold Hp.set; split
      · rename_i q; rw [q, hTb]
      · rfl
    rw [hset] at S1 E1
    exact core _ _ _ S1 fun s' T' n S' E' => h s' T' n S' (E1.trans E')
/-- it is in flight here already -/
theorem noteAgain_W {L e c T : Addr} {d : Option Addr} {Q : Unit → Shared → Prop} {E : Value → Shared → Prop} (hf : env.frame = some L) (S : Sim C H s) (he : H e = some (.exc c d (some T))) (hT : H T = some (.tb (some L))) (h : Q () s) : wpAny C.M A (noteFrame (.ref e) env) Q E s := by
  obtain ⟨oe, vs, e1, e2, e3, e4, e5, e6⟩ := S.objs _ _ he
  obtain ⟨oT, ts, t1, t2, t3⟩ := S.objs _ _ hT
  exact wpAny_noteFrame_inFlight hf e1 e4 e6 t1 t2 t3 h
theorem land_W {e c T : Addr} {d fl : Option Addr} {Q : Unit → Shared → Prop} {E : Value → Shared → Prop} (S : Sim C H s) (he : H e = some (.exc c d (some T))) (hT : H T = some (.tb fl))
    (h : ∀ s', Sim C (H.set T (.tb none)) s' → Ext H s.heap (H.set T (.tb none)) s'.heap → Q () s') : wpAny C.M A (setFlight (.ref e) none) Q E s := by
  obtain ⟨oe, vs, e1, e2, e3, e4, e5, e6⟩ := S.objs _ _ he
  obtain ⟨oT, ts, t1, t2, t3⟩ := S.objs _ _ hT
  have hsz := (Array.getElem?_eq_some_iff.mp t3).1
  refine wpAny_setFlight_none e1 e4 e6 t1 t2 hsz ?_
  have hd3 := Obj.data_mapFields t2 (·.setIfInBounds 3 Value.none)
  have ht3 := Heap.get?_update_self (Obj.mapFields (·.setIfInBounds 3 Value.none)) t1 (Obj.isFreed_of_fields hd3)
  obtain ⟨S1, E1⟩ := S.update (s' := { s with heap := s.heap.update T (Obj.mapFields (·.setIfInBounds 3 Value.none)) }) (o' := .tb none) hT (.update ..) ⟨_, ht3⟩ rfl rfl ⟨_, _, ht3, hd3, by simp [hsz]⟩
  exact h _ S1 E1
end Mine

set_option Elab.async false
set_option linter.unusedVariables false
namespace Mine
open PySem PySem.W PyProof.Rows
def stAt (p : Program) (i : Nat) : Option Stmt := p.main.body[i]?
def stIn (p : Program) (i j : Nat) : Option Stmt := match p.main.body[i]? with
  | some (.ClassDef _ _ _ b ..) => b[j]?
  | _ => none
def fnTri : Option Stmt → Arguments × List Stmt × Scope
  | some (.FunctionDef _ a b _ _ _ sc ..) => (a, b, sc)
  | _ => (default, [], default)
def fobj (s : Option Stmt) (name qual : Str) (dV kV doc pm : Value) (an : Option Addr) (cdv ct : Value) : Obj :=
  ⟨.type "function", none, .func (fnOf name qual (fnTri s).1 (fnTri s).2.1 (fnTri s).2.2 dV kV doc pm an cdv ct), #[]⟩
variable {C : Cx} {K : Frag}
theorem FnOK.ofS {k : Nat} {a : Addr} {s : Option Stmt} {name qual : Str} {params : Arguments} {body : List Stmt} {scope : Scope} {dV kV doc pm cdv ct : Value} {an : Option Addr} {S : SpecT} (names : List Str)
    (P : PCx C K) (ho : K.lookup a = some (fobj s name qual dV kV doc pm an cdv ct)) (hs : fnTri s = (params, body, scope)) (hcd : codeIn K cdv qual = true)
    (hbind : ∀ vals : List Value, vals.length = names.length → bindArgs (fnOf name qual params body scope dV kV doc pm an cdv ct) ⟨vals, []⟩ = pure (names.zip vals))
    (hk : (names.all fun n => scope.names.lookup n == some .local || scope.names.lookup n == some .cell) = true) (hfl : (!scope.isCoroutine && !scope.isGenerator && scope.kind == .function) = true)
    (h : ∀ args Q R H, S args Q R H → args.length = names.length ∧ ∀ L, PCx (C.push (envOfC qual scope L a cdv)) K → ExecsW (C.push (envOfC qual scope L a cdv)) k (envOfC qual scope L a cdv) body (RetQ Q) (fun _ _ _ => False) (bindRho (fun _ => none) names args) H) :
    FnOK C (k + 1) (.ref a) S := by
  unfold fobj at ho
  rw [hs] at ho
  exact FnOK.ofK names P.X P.lim ho hcd hbind hk hfl fun args Q R H hs => ⟨(h args Q R H hs).1, fun L => (h args Q R H hs).2 L (P.push _)⟩
theorem Plainly.ofS {a : Addr} {s : Option Stmt} {name qual : Str} {dV kV doc pm cdv ct : Value} {an : Option Addr}
    (X : K.In C.base) (ho : K.lookup a = some (fobj s name qual dV kV doc pm an cdv ct)) : Plainly C (.ref a) := Plainly.fn (X _ _ ho) rfl
end Mine

set_option Elab.async false
set_option linter.unusedVariables false
namespace Mine
open PySem PySem.W PyProof.Rows
variable {C : Cx} {H : Hp} {s : Shared} {A : Around} {env : Env} {l : List Env} {k : Nat} {K : Frag}

theorem leave_W {L e c : Addr} {d T0 : Option Addr} {Q : Unit → Shared → Prop} {E : Value → Shared → Prop} (hA : A.frames = some (env :: l)) (hC : C.frs = some (env :: l)) (hf : env.frame = some L) (S : Sim C H s) (he : H e = some (.exc c d T0))
    (hT : T0 = none ∨ ∃ T fl, T0 = some T ∧ H T = some (.tb fl) ∧ (fl = none ∨ fl = some L))
    (h : ∀ s' H' T', H' e = some (.exc c d (some T')) → H' T' = some (.tb none) → (∀ b, b ≠ e → (∀ fl, H b ≠ some (.tb fl)) → H b ≠ none → H' b = H b) → Sim C H' s' → Ext H s.heap H' s'.heap → Q () s') : wpAny C.M A (leaving env (.ref e)) Q E s := by
  have new : (∀ T, T0 = some T → H T = some (.tb none)) → wpAny C.M A (leaving env (.ref e)) Q E s := fun hT => by
    unfold leaving
    refine wpAny_bind (note_W hA hC hf S he hT fun s' T' n S' E' => ?_)
    have hne : T' ≠ e := fun q => by rw [q, he] at n; cases n
    have h1 : ((H.set T' (.tb (some L))).set e (.exc c d (some T'))) e = some (.exc c d (some T')) := by simp [Hp.set]
    have h2 : ((H.set T' (.tb (some L))).set e (.exc c d (some T'))) T' = some (.tb (some L)) := by simp [Hp.set, hne]
    refine land_W S' h1 h2 fun s'' S'' E'' => ?_
    refine h s'' _ T' ?_ ?_ ?_ S'' (E'.trans E'')
    · simp [Hp.set, hne.symm]
    · simp [Hp.set]
    · intro b hb nt nn
      have hbT : b ≠ T' := fun q => by rw [q, n] at nn; exact nn rfl
      simp [Hp.set, hb, hbT]
  rcases hT with rfl | ⟨T, fl, rfl, hTb, rfl | rfl⟩
  · exact new fun T q => by cases q
  · exact new fun T' q => by cases q; exact hTb
  · unfold leaving
    refine wpAny_bind (noteAgain_W hf S he hTb ?_)
    have hne : e ≠ T := fun q => by rw [q, hTb] at he; cases he
    refine land_W S he hTb fun s'' S'' E'' => ?_
    refine h s'' _ T ?_ ?_ ?_ S'' E''
    · simp [Hp.set, hne]; exact he
    · simp [Hp.set]
    · intro b hb nt nn
      have hbT : b ≠ T := fun q => nt _ (q ▸ hTb)
      simp [Hp.set, hbT]

/-- an exception on its way out of the frame L -/
def XR (L : Addr) (R : V → Hp → Prop) : V → Hp → Prop := fun v H => ∃ e c d T0, v = .ref e ∧ H e = some (.exc c d T0) ∧ (T0 = none ∨ ∃ T fl, T0 = some T ∧ H T = some (.tb fl) ∧ (fl = none ∨ fl = some L)) ∧
  ∀ H' T', H' e = some (.exc c d (some T')) → H' T' = some (.tb none) → (∀ b, b ≠ e → (∀ fl, H b ≠ some (.tb fl)) → H b ≠ none → H' b = H b) → R (.ref e) H'

theorem FnOK.of_defX {a : Addr} {fd : FuncData} {names : List Str} {body : List Stmt} {S : SpecT} (D : FnDef C a fd names body) (hC : C.frs = some l)
    (h : ∀ args Q R H, S args Q R H → args.length = names.length ∧ ∀ L, ExecsW (C.push (callEnvC fd L a)) k (callEnvC fd L a) body (RetQ Q) (fun v _ H' => XR L R v H') (bindRho (fun _ => none) names args) H) :
    FnOK C (k + 1) (.ref a) S := by
  intro A lv s H args xs Q R Sm rel hs
  obtain ⟨hlen, hb⟩ := h args Q R H hs
  obtain ⟨o, ho, hd⟩ := D.obj
  have hxl : xs.length = names.length := rel.length.trans hlen
  have hkinds : ∀ x ∈ names.zip xs, fd.scope.names.lookup x.1 = some .local ∨ (fd.scope.names.lookup x.1 = some .cell ∧ ((cellsFrom (s.heap.objs.size + 1) fd.scope.names []).lookup x.1).isSome = true) := by
    intro x hx
    rcases D.kinds x.1 (List.of_mem_zip (a := x.1) (b := x.2) hx).1 with q | q
    · exact .inl q
    · exact .inr ⟨q, cellsFrom_isSome _ _ _ _ (.inl q)⟩
  refine codeAny_call_cells (by have := lv.depth; omega) (Sm.keep _ _ ho) hd (D.limit.keeps Sm.keep) (D.code.keeps Sm.keep) D.body (D.bind xs hxl) D.closure hkinds (fun s₁ X => ?_) D.co D.gen D.kind
  have hkeep := X.toInCall.keep
  obtain ⟨h₁, tk, e₁, _⟩ := X.done
  have E₁ : Ext H s.heap H s₁.heap := Ext.grown hkeep
  have S₁ : Sim C H s₁ := Sm.grown hkeep (by rw [e₁]) (by rw [e₁])
  have EO : EnvOf fd (callEnvC fd s.heap.objs.size a) := ⟨rfl, fun x hx => cellsFrom_isSome _ _ _ _ (.inl hx)⟩
  obtain ⟨oL, esL, epL, eL, dL, _⟩ := X.toInCall.ns
  have S₂ : Sim (C.push (callEnvC fd s.heap.objs.size a)) H s₁ := S₁.push (by show fd.scope.kind ≠ _; rw [D.kind]; decide) rfl (Sm.freshB (Nat.le_refl _)) (Sm.fresh (Nat.le_refl _)) eL dL
  have SL : SimL (C.push (callEnvC fd s.heap.objs.size a)) (callEnvC fd s.heap.objs.size a) (bindRho (fun _ => none) names args) H s₁ := by
    refine ⟨S₂, D.kind, D.globals, D.builtins, _, _, ⟨X.toInCall.ns, X.cell, Sm.fresh (Nat.le_refl _), fun n c e => Sm.fresh ?_, Sm.freshB (Nat.le_refl _), fun n c e => Sm.freshB ?_, fun n n' c e e' => name_of_addr X.apart (mem_of_lookup e) (mem_of_lookup e')⟩, ?_⟩
    · exact Nat.le_of_lt (X.above n c (mem_of_lookup e))
    · exact Nat.le_of_lt (X.above n c (mem_of_lookup e))
    · refine bind_rel names args xs (rel.ext E₁) _ _ _ (fun n hn => ?_) (fun x v e => by cases e)
      rcases D.kinds n hn with q | q
      · exact .inl q
      · exact .inr ⟨q, EO.cells n q⟩
  have hfr : (A.deeper (callEnvC fd s.heap.objs.size a)).frames = some (callEnvC fd s.heap.objs.size a :: l) := Around.frames_deeper (lv.frames l hC)
  have hCp : (C.push (callEnvC fd s.heap.objs.size a)).frs = some (callEnvC fd s.heap.objs.size a :: l) := by show C.frs.map _ = _; rw [hC]; rfl
  have lv' : Lv (C.push (callEnvC fd s.heap.objs.size a)) k (A.deeper (callEnvC fd s.heap.objs.size a)) := ⟨fun e => lv.handled e, by have := lv.depth; show A.depth + 1 + 2 * k + 100 < _; omega, by have := lv.units; show A.units + 3 + 40 * k + 100 < _; omega, fun l' e => by
    rw [hCp] at e; cases e; exact hfr⟩
  have back : ∀ {H' : Hp} {h' : Heap}, ExtF (callEnvC fd s.heap.objs.size a) H s₁.heap H' h' → Ext H s.heap H' h' := fun {H' h'} E' => by
    refine ⟨fun b ob e n => E'.keep b ob (hkeep b ob e) n ?_ ?_, fun b ob e n => E'.grow b ob (hkeep b ob e) n, fun b ob e => E'.live b ob (hkeep b ob e)⟩
    · exact Nat.ne_of_lt (Heap.lt_size e)
    · intro n' e'
      have h1 := X.above n' b (mem_of_lookup e')
      have h2 := Heap.lt_size e
      exact absurd (Nat.lt_trans (show s.heap.objs.size < b from h1) h2) (Nat.lt_irrefl _)
  refine wpAny_mono (hb _ _ lv' s₁ SL) ?_ ?_
  · rintro f s' ⟨fl, ρ', H', ⟨v', H'', fz, q⟩, r, S', E'⟩
    have E'' := back E'
    have rv := r.val
    obtain ⟨S'', r''⟩ := fz.2 C s' _ S'.sim.pop rv
    exact ⟨v', H'', q, S'', r'', ⟨E''.keep, fun b ob e n => fz.1 b (E''.grow b ob e n), E''.live⟩⟩
  · rintro e s' ⟨v, ρ', H', ⟨ex, c, d, T0, rfl, hex, hT, hR⟩, rv, S', E'⟩
    cases rv
    have E'' := back E'
    refine leave_W (C := C.push (callEnvC fd s.heap.objs.size a)) hfr hCp rfl S'.sim hex hT fun s'' H'' T' e1 e2 e3 S'' E3 => ?_
    exact ⟨.ref ex, H'', hR H'' T' e1 e2 e3, S''.pop, .ref _, E''.trans E3⟩
end Mine

set_option Elab.async false
set_option maxRecDepth 100000
set_option linter.unusedVariables false
namespace Mine
open PySem PySem.W PyProof.Rows

section
variable {prog : Program} {w : World} {A : Around} {E : Value → Shared → Prop} {h : Heap} {g : Array GenState} {d : Drawn} {t : Nat} {os : OsState}
variable {nm q : Str} {C N : Addr} {bs bm bmB : List Value} {hdct : Bool} {sn : List Str} {sub : List Value} {ab : Bool} {col : Option Bool} {dd : Option Addr} {k0 k1 k2 k3 k5 : Option Value} {B newId initId : String}

/-- a class of one's own below a class of one's own, with its own init -/
theorem type_call_initT (F : ExcBaseFacts B newId initId bmB) (T : OwnTail h bmB bm) {mN : Str → Option Value} {rest : List Value} {fI : Addr} {oI : Obj} {Q : Fin → Shared → Prop}
    (hC : h.get? C = some (excClassObj nm q C N bs bm hdct sn sub ab col dd k0 k1 k2 k3 k5 newId)) (hn : h.Ns N mN) (hi : mN "__init__" = some (.ref fI))
    (hfI : h.get? fI = some oI) (hfc : oI.cls = .type "function")
    (hq : ∀ h' e, h.objs.size ≤ e → Heap.MadeExcOf h h' e (.ref C) rest → wpAny (model prog w) A (call (.ref fI) (.ref e :: rest)) (fun r s' => r = .none ∧ Q (.done (.ret (.ref e))) s') E ⟨h', g, d, t, os⟩) (hrest : rest.length ≤ sizeLine) :
    wpAny (model prog w) A (Builtin.«type.__call__» ⟨.ref C :: rest, []⟩) Q E ⟨h, g, d, t, os⟩ := by
  repeat (first | with_reducible refine wpAny_loadPart_at hC ?_ | with_reducible refine wpAny_madeBy_exc hC ?_ | wp_step)
  refine codeAny_call_builtin_code (Code.quiet_builtin _ F.quiet) (wpAny_check_new_subT F T hC ?_)
  refine codeAny_exc_new_subT F T hC ?_ hrest
  show wpAny _ _ _ _ _ _
  have up : ∀ b o, h.get? b = some o → ((h.push { cls := .type "tuple", data := .seq rest.toArray }).push { cls := .ref C, data := .fields #[.ref h.objs.size, .none, .none, .none, .bool false, .none] }).get? b = some o :=
    fun b o e => Heap.get?_push_of_some _ (Heap.get?_push_of_some _ e)
  have hC₁ := up _ _ hC
  have hfI₁ := up _ _ hfI
  have hn₁ : ((h.push { cls := .type "tuple", data := .seq rest.toArray }).push { cls := .ref C, data := .fields #[.ref h.objs.size, .none, .none, .none, .bool false, .none] }).Ns N mN :=
    let ⟨o, es, ep, e, r⟩ := hn; ⟨o, es, ep, up _ _ e, r⟩
  have hget : ((h.push { cls := .type "tuple", data := .seq rest.toArray }).push
      { cls := .ref C, data := .fields #[.ref h.objs.size, .none, .none, .none, .bool false, .none] }).get? (h.objs.size + 1) = some
      { cls := .ref C, data := .fields #[.ref h.objs.size, .none, .none, .none, .bool false, .none] } := by heap_get
  have hcC : (Value.ref C :: bm).contains (.ref C) = true := by simp
  have T₁ := T.keeps up
  unfold isInstance
  repeat (first | with_reducible refine wpAny_loadPart_at hget ?_ | (with_reducible refine wpAny_isSubtype_exc hC₁ ?_; rw [hcC]) | wp_step)
  show wpAny _ _ (typeLookup (.ref C) _) _ _ _
  refine wpAny_typeLookup_tail hC₁ hn₁ T₁ F.mroIs F.init.lookup ?_
  rw [hi]
  refine wpAny_holding (wpAny_bind ?_)
  unfold bindSpecial
  refine wpAny_bind (wpAny_typeOf (T := "function") ⟨_, hfI₁, hfc⟩ ?_)
  rw [if_pos (by decide)]
  refine wpAny_pure (wpAny_bind (wpAny_mono (hq _ (h.objs.size + 1) (Nat.le_succ _) ⟨up, Heap.get?_none_of_le (Nat.le_succ _), h.objs.size, hget, Heap.get?_none_of_le (Nat.le_refl _), ?_⟩) (fun r s' hr => ?_) fun _ _ x => x))
  · exact Heap.get?_push_of_some _ (Heap.get?_push_at rfl rfl)
  · obtain ⟨rfl, hQ⟩ := hr
    wp_walk
    exact hQ
theorem call_initT (F : ExcBaseFacts B newId initId bmB) (T : OwnTail h bmB bm) {mN : Str → Option Value} {rest : List Value} {fI : Addr} {oI : Obj} {Q : Value → Shared → Prop}
    (hC : h.get? C = some (excClassObj nm q C N bs bm hdct sn sub ab col dd k0 k1 k2 k3 k5 newId)) (hn : h.Ns N mN) (hi : mN "__init__" = some (.ref fI))
    (hfI : h.get? fI = some oI) (hfc : oI.cls = .type "function")
    (hq : ∀ h' e, h.objs.size ≤ e → Heap.MadeExcOf h h' e (.ref C) rest →
      wpAny (model prog w) (A.under (.builtin "type.__call__" ⟨.ref C :: rest, []⟩)) (call (.ref fI) (.ref e :: rest)) (fun r s' => r = .none ∧ Q (.ref e) s') E ⟨h', g, d, t, os⟩) (hrest : rest.length ≤ sizeLine) :
    wpAny (model prog w) A (call (.ref C) rest) Q E ⟨h, g, d, t, os⟩ := by
  have f1 := tc_lookup
  have f2 := tc_bind (.ref C)
  have hT : (⟨h, g, d, t, os⟩ : Shared).TypeIs (.ref C) "type" := ⟨_, hC, rfl⟩
  refine wpAny_call (codeAny_of_tree ?_)
  show wpAny _ _ (callAny (.ref C) _) _ _ _
  repeat (any_goals (first | assumption | with_reducible refine wpAny_loadPart_at hC ?_ | wp_step))
  refine ⟨rfl, ?_⟩
  refine codeAny_call_builtin_at (Code.quiet_builtin _ (by decide +kernel)) entry_typeCall (wpAny_check_type_call_sub hC (type_call_initT F T hC hn hi hfI hfc (fun h' e hz hm => ?_) hrest))
  exact hq h' e hz hm
end
end Mine

set_option Elab.async false
set_option maxRecDepth 100000
set_option linter.unusedVariables false
namespace Mine
open PySem PySem.W PyProof.Rows
variable {C : Cx} {k : Nat} {K : Frag} {env : Env} {ρ : Rho} {H : Hp} {Q R : V → Hp → Prop}

/-- an exception class of one's own, as the base has it -/
structure ExcCls (C : Cx) (c : Addr) : Prop where
  tail : ∃ nm q N bs bm hdct sn sub ab col dd k0 k1 k2 k3 k5, C.base.get? c = some (excClassObj nm q c N bs bm hdct sn sub ab col dd k0 k1 k2 k3 k5 "ValueError.__new__") ∧ OwnTail C.base [.type "ValueError", .type "Exception", .type "BaseException", .type "object"] bm
theorem CallW.excInit {c e : Addr} {d T : Option Addr} {v : V} (hc : ExcCls C c) (he : H e = some (.exc c d T)) (h : Q .none H) : CallW C k (.builtin "ValueError.__init__") [.ref e, v] Q R H := fun A lv s xs S r => by
  cases r with
  | cons r1 r' => cases r' with
    | cons r2 r' =>
      cases r'; cases r1
      rename_i x
      obtain ⟨nm, q, N, bs, bm, hdct, sn, sub, ab, col, dd, k0, k1, k2, k3, k5, hC, hT⟩ := hc.tail
      obtain ⟨oe, vs, e1, e2, e3, e4, e5, e6⟩ := S.objs _ _ he
      obtain ⟨hp, g, dr, tk, os⟩ := s
      have F := PySem.F.excBase_ValueError
      have T₁ := hT.keeps S.keep
      have hC₁ := S.keep _ _ hC
      refine wpAny_call (codeAny_call_builtin F.init.plain F.initEntry (wpAny_check_init_subT F T₁ hC₁ e1 e2 ?_))
      dsimp only
      unfold Builtin.«BaseException.__init__»
      dsimp only
      have h0 : ∃ y, vs[0]? = some y := ⟨_, Array.getElem?_eq_getElem (show 0 < vs.size by omega)⟩
      obtain ⟨y, h0⟩ := h0
      have hk : ∀ b o, hp.get? b = some o → (hp.push { cls := .type "tuple", data := .seq [x].toArray }).get? b = some o := fun b o eb => Heap.get?_push_of_some _ eb
      rw [if_neg (by decide)]
      refine wpAny_bind ?_
      unfold newTuple
      refine wpAny_newObj_type ?_ (by have := sizeLine_eq; show [x].toArray.size ≤ sizeLine; simp; omega)
      have e1' := hk _ _ e1
      have S1 : Sim C H ⟨hp.push { cls := .type "tuple", data := .seq [x].toArray }, g, dr, tk, os⟩ := S.grown (s' := ⟨hp.push { cls := .type "tuple", data := .seq [x].toArray }, g, dr, tk, os⟩) hk rfl rfl
      refine wpAny_bind ?_
      unfold Builtin.BaseException.bexcPut
      refine wpAny_bind (wpAny_field e1' e4 h0 ?_)
      refine wpAny_bind (wpAny_setField e1' e4 (by omega) ?_)
      have hd3 := Obj.data_mapFields e4 (·.setIfInBounds 0 (Value.ref hp.objs.size))
      have he3 := Heap.get?_update_self (Obj.mapFields (·.setIfInBounds 0 (Value.ref hp.objs.size))) e1' (Obj.isFreed_of_fields hd3)
      obtain ⟨S2, E2⟩ := S1.update (s' := ⟨(hp.push { cls := .type "tuple", data := .seq [x].toArray }).update e (Obj.mapFields (·.setIfInBounds 0 (Value.ref hp.objs.size))), g, dr, tk, os⟩) (o' := .exc c d T) he (.update ..) ⟨_, he3⟩ rfl rfl
        ⟨_, _, he3, by rw [Obj.cls_mapFields]; exact e2, by obtain ⟨c0, d0, dt, sl⟩ := oe; dsimp only at e4; subst e4; exact e3, hd3, by simpa using e5, by rw [Array.getElem?_setIfInBounds_ne (by decide)]; exact e6⟩
      have hset : H.set e (.exc c d T) = H := by
        funext b; unfold Hp.set; split
        · rename_i z; rw [z, he]
        · rfl
      rw [hset] at S2 E2
      have fin : Post C H hp VRel Q Value.none ⟨(hp.push { cls := .type "tuple", data := .seq [x].toArray }).update e (Obj.mapFields (·.setIfInBounds 0 (Value.ref hp.objs.size))), g, dr, tk, os⟩ := ⟨.none, H, h, S2, .none, (Ext.grown hk).trans E2⟩
      cases y with
      | ref b => exact wpAny_letGo (wpAny_pure fin)
      | _ => exact wpAny_pure (wpAny_pure fin)
end Mine

set_option Elab.async false
set_option maxRecDepth 100000
set_option linter.unusedVariables false
namespace Mine
open PySem PySem.W PyProof.Rows
variable {C : Cx} {k : Nat} {K : Frag} {env : Env} {ρ : Rho} {H : Hp} {Q R : V → Hp → Prop}

def excMro : List Value → Bool
  | [.type a, .type b, .type c, .type d] => a == "ValueError" && b == "Exception" && c == "BaseException" && d == "object"
  | .ref _ :: r => excMro r
  | _ => false
theorem refuse_tail (self : Value) : refuseLoop self "__setattr__" [.type "ValueError", .type "Exception", .type "BaseException", .type "object"] = pure () := by
  kernel_rfl
theorem excMro_tail : ∀ {l : List Value}, excMro l = true → ∃ rs : List Addr, l = rs.map Value.ref ++ [.type "ValueError", .type "Exception", .type "BaseException", .type "object"]
  | [.type a, .type b, .type c, .type d], e => by
    simp only [excMro, Bool.and_eq_true, beq_iff_eq] at e
    obtain ⟨⟨⟨rfl, rfl⟩, rfl⟩, rfl⟩ := e
    exact ⟨[], rfl⟩
  | .ref a :: r, e => by
    obtain ⟨rs, h⟩ := excMro_tail (l := r) (by unfold excMro at e; exact e)
    exact ⟨a :: rs, by rw [h]; rfl⟩
theorem refuse_exc (self : Value) {l : List Value} (e : excMro l = true) : refuseLoop self "__setattr__" l = pure () := by
  obtain ⟨rs, rfl⟩ := excMro_tail e
  clear e
  induction rs with
  | nil => exact refuse_tail self
  | cons a r ih => rw [List.map_cons, List.cons_append, refuseLoop_ref]; exact ih
structure ExcOk (K : Frag) (c : Addr) : Prop where
  get : findIn K (.ref c) "__getattribute__" = some (some (.builtin "BaseException.__getattribute__"))
  set : findIn K (.ref c) "__setattr__" = some (some (.builtin "object.__setattr__"))
  hook : findIn K (.ref c) "__getattr__" = some none
  mro : (clsIn K c).any (fun cd => cd.hasDict && excMro cd.mro) = true
section
variable {prog : Program} {w : World} {A : Around} {R : Result → Shared → Prop} {s : Shared} {x c : Addr}
theorem osa_exc {ox : Obj} {od : Option Obj} {name : Str} {tk : Tok} {v : Value} (X : K.In s.heap) (I : InstAt s.heap x ox c od) (hp : (clsIn K c).any (fun cd => cd.hasDict && excMro cd.mro) = true) (ht : findIn K (.ref c) name = some none)
    (h : wpAny (model prog w) A.in1 (Builtin.ObjectAttr.storeInOwnDict (.ref x) (.ref c) (.str name tk) name v false)
      (fun fin s' => match fin with | Fin.done f => R (.ok f) s' | Fin.again c' => c'.quiet = true ∧ codeAny (model prog w) A c' R s') (fun e s' => R (.error e) s') s) :
    codeAny (model prog w) A (.call (.builtin "object.__setattr__") ⟨[.ref x, .str name tk, v], []⟩) R s := by
  have SF := PySem.F.store_object
  obtain ⟨cd, hc, ho⟩ := any_some hp
  simp only [Bool.and_eq_true] at ho
  obtain ⟨hd, ho⟩ := ho
  obtain ⟨rs, hm0⟩ := excMro_tail ho
  have ne : cd.mro.isEmpty = false := by rw [hm0]; cases rs <;> rfl
  have has : cd.mro.contains (.type "object") = true := by rw [hm0]; simp
  have sub : Looks (model prog w) s.heap (isInstance (.ref x) (.type "object")) true := I.type.andThen (looks_mroIn X (by unfold mroIn; rw [hc, Option.bind_some, if_neg (by rw [ne]; decide), has]))
  refine codeAny_call_builtin SF.slot.plain SF.entry (@check_slot (model prog w) _ _ s "object.__setattr__" "object" "__setattr__" (.ref x) [.str name tk, v] [] _ SF.kind SF.split sub (SF.args (.ref x) (.str name tk) v) ?_)
  have hm : Looks (model prog w) s.heap (mroOf (.ref c)) cd.mro := (looks_clsIn X hc).andThen .now
  rw [osa_eq, refuse_eq]
  refine wpAny_bind (wpAny_bind (I.type.here (wpAny_bind (hm.here ?_))))
  rw [refuse_exc _ ho]
  refine wpAny_pure (wpAny_bind (I.type.here (wpAny_bind ((looks_findIn X ht).here (wpAny_bind ((Looks.now (a := none)).here ?_))))))
  exact h
end
end Mine

set_option Elab.async false
set_option maxRecDepth 100000
set_option linter.unusedVariables false
namespace Mine
open PySem PySem.W PyProof.Rows Builtin Builtin.ObjectAttr
variable {C : Cx} {k : Nat} {K : Frag} {env : Env} {ρ : Rho} {H : Hp} {Q R : V → Hp → Prop}

theorem storeDict_W {A : Around} {s : Shared} {d : Addr} {m : Str → Option V} {n n' : Nat} {name : Str} {u : V} {z : Value} {tk : Tok} {P : Fin → Shared → Prop} {E : Value → Shared → Prop} (S : Sim C H s) (hd : H d = some (.ns m n)) (r2 : VRel s.heap H u z) (hn : n ≤ 900) (hn' : n + 1 ≤ n')
    (h : ∀ s', Sim C (H.set d (.ns (Rho.set m name u) n')) s' → Ext H s.heap (H.set d (.ns (Rho.set m name u) n')) s'.heap → P (.done (.ret .none)) s') : wpAny C.M A (storeInDict d (.str name tk) name z) P E s := by
  obtain ⟨od, es, ep, e, hdat, hk, hz, hr⟩ := S.objs _ _ hd
  unfold storeInDict
  refine wpAny_bind (wpAny_pure (wpAny_bind ?_))
  unfold nsSet
  refine wpAny_bind (wpAny_bind (wpAny_askSetting (wpAny_pure (wpAny_bind (wpAny_mkText (wpAny_bind (wpAny_loadPart e ?_)))))))
  rw [hdat]
  dsimp only
  rw [aRefKeyMayBeTheName_at, noRefKey hk, Bool.and_false]
  obtain ⟨es', ep', g1, g2, g3, g4, g5⟩ := putName_ns hdat hk name (PyData.keyHash C.w.params name) s.toks z
  have e' : (s.heap.update d (Obj.putName name (PyData.keyHash C.w.params name) (.str name s.toks) z)).get? d = some (Obj.putName name (PyData.keyHash C.w.params name) (.str name s.toks) z od) := Heap.get?_update_self _ e (Obj.isFreed_of_dict g1)
  have hsb := Heap.SameBut.update s.heap d (Obj.putName name (PyData.keyHash C.w.params name) (.str name s.toks) z)
  refine wpAny_updatePart e ?_
  refine wpAny_bind (wpAny_lookBehind e' (by rw [g1]; exact pastItsLine_dict (by rw [sizeLine_eq]; omega)) ?_)
  refine wpAny_pure ?_
  have hne : ∀ b, H b = none → b ≠ d := fun b e' q => by rw [q, hd] at e'; cases e'
  have E0 : ∀ o', ExtV H s.heap (H.set d o') (s.heap.update d (Obj.putName name (PyData.keyHash C.w.params name) (.str name s.toks) z)) := fun o' b ob _ _ e _ n => ⟨.of ((hsb.2 b (hne b n)).trans e), by unfold Hp.set; rw [if_neg (hne b n)]; exact n⟩
  obtain ⟨S', E'⟩ := S.update (s' := { s with heap := s.heap.update d (Obj.putName name (PyData.keyHash C.w.params name) (.str name s.toks) z), toks := s.toks + 1 }) (o' := .ns (Rho.set m name u) n') hd hsb ⟨_, e'⟩ rfl rfl
    ⟨_, es', ep', e', g1, g2, by omega, fun x => by
      rw [g3]
      unfold Rho.set
      by_cases q : x = name
      · simp only [q, if_true]; exact r2.extV (E0 _)
      · simp only [q, if_false]; exact (hr x).extV (E0 _)⟩
  exact h _ S' E'

theorem SetAttrW.exc (P : PCx C K) {e c : Addr} {T : Option Addr} {name : Str} {u : V} {QH : Hp → Prop} (hc : ExcOk K c) (he : H e = some (.exc c none T)) (hx : findIn K (.ref c) name = some none)
    (h : ∀ d, H d = none → d ≠ e → QH ((H.set d (.ns (Rho.set (Rho.of []) name u) 1)).set e (.exc c (some d) T))) : SetAttrW C k (.ref e) name u QH R H := fun A lv s x z S r1 r2 => by
  cases r1
  obtain ⟨oe, vs, e1, e2, e3, e4, e5, e6⟩ := S.objs _ _ he
  obtain ⟨c0, d0, dt, sl⟩ := oe
  dsimp only at e2 e3 e4
  subst e2 e3 e4
  have X := P.at S
  have I : InstAt s.heap e ⟨.ref c, none, .fields vs, sl⟩ c none := ⟨e1, rfl, rfl, trivial⟩
  refine set_plain X I hc.set ?_
  refine osa_exc (s := { s with toks := s.toks + 1 }) X I hc.mro hx ?_
  obtain ⟨cd, hcd, hh⟩ := any_some hc.mro
  simp only [Bool.and_eq_true] at hh
  have hk : ∀ b o, s.heap.get? b = some o → (s.heap.push { cls := .type "dict", data := .dict #[] }).get? b = some o := fun b o eb => Heap.get?_push_of_some _ eb
  unfold storeInOwnDict
  refine wpAny_bind (wpAny_pure (wpAny_bind ?_))
  unfold ownDictForStores instanceDict
  refine wpAny_bind (wpAny_loadPart e1 (wpAny_bind (looks_clsIn X hcd _ _ _ _ (fun _ _ e => e) ?_)))
  rw [if_neg (by rw [hh.1]; decide)]
  dsimp only
  rw [if_neg (by show ¬ ((!true || !true) = true); decide)]
  obtain ⟨S1, E1⟩ := (S.toks (s.toks + 1)).alloc (s' := { s with heap := s.heap.push { cls := .type "dict", data := .dict #[] }, toks := s.toks + 1 }) (o := .ns (Rho.of []) 0) hk rfl rfl
    ⟨_, #[], 0, Heap.get?_push_size _ rfl, rfl, fun _ he => by simp at he, Nat.le_refl _, fun _ => trivial⟩
  have hne : s.heap.objs.size ≠ e := Nat.ne_of_gt (Heap.lt_size e1)
  have hd0 : H s.heap.objs.size = none := S.fresh (Nat.le_refl _)
  have he1 : (H.set s.heap.objs.size (.ns (Rho.of []) 0)) e = some (.exc c none T) := by unfold Hp.set; rw [if_neg hne.symm]; exact he
  have eh := hk _ _ e1
  refine wpAny_bind (wpAny_alloc (wpAny_bind (wpAny_update eh ?_)))
  have e3' : ((s.heap.push { cls := .type "dict", data := .dict #[] }).update e fun o => { o with dict := some s.heap.objs.size }).get? e = some ⟨.ref c, some s.heap.objs.size, .fields vs, sl⟩ := Heap.get?_update_self _ eh rfl
  obtain ⟨S2, E2⟩ := S1.update (s' := { s with heap := (s.heap.push { cls := .type "dict", data := .dict #[] }).update e fun o => { o with dict := some s.heap.objs.size }, toks := s.toks + 1 }) (o' := .exc c (some s.heap.objs.size) T) he1 (.update ..) ⟨_, e3'⟩ rfl rfl
    ⟨_, vs, e3', rfl, rfl, rfl, e5, e6⟩
  have hd2 : ((H.set s.heap.objs.size (.ns (Rho.of []) 0)).set e (.exc c (some s.heap.objs.size) T)) s.heap.objs.size = some (.ns (Rho.of []) 0) := by simp [Hp.set, hne]
  refine wpAny_pure ?_
  refine storeDict_W S2 hd2 (r2.ext (E1.trans E2)) (by decide) (n' := 1) (Nat.le_refl _) fun s' S' E' => ?_
  have hH : (((H.set s.heap.objs.size (.ns (Rho.of []) 0)).set e (.exc c (some s.heap.objs.size) T)).set s.heap.objs.size (.ns (Rho.set (Rho.of []) name u) 1)) = ((H.set s.heap.objs.size (.ns (Rho.set (Rho.of []) name u) 1)).set e (.exc c (some s.heap.objs.size) T)) := by
    funext b
    simp only [Hp.set]
    by_cases q1 : b = s.heap.objs.size
    · subst q1; simp [hne]
    · by_cases q2 : b = e
      · rw [if_neg q1, if_pos q2, if_pos q2]
      · rw [if_neg q1, if_neg q2, if_neg q1, if_neg q2, if_neg q1]
  rw [hH] at S' E'
  exact ⟨(), _, h _ hd0 hne, S', trivial, (E1.trans E2).trans E'⟩
end Mine

set_option Elab.async false
set_option maxRecDepth 100000
set_option linter.unusedVariables false
namespace Mine
open PySem PySem.W PyProof.Rows Builtin Builtin.ObjectAttr
variable {C : Cx} {k : Nat} {K : Frag} {env : Env} {ρ : Rho} {H : Hp} {Q R : V → Hp → Prop}

theorem AttrW.exc (P : K.In C.base) {e c d : Addr} {T : Option Addr} {m : Str → Option V} {n : Nat} {name : Str} {v : V} (hc : ExcOk K c) (he : H e = some (.exc c (some d) T)) (hd : H d = some (.ns m n)) (hm : m name = some v)
    (hx : findIn K (.ref c) name = some none) (hv : v.plain = true) (h : Q v H) : AttrW C k (.ref e) name Q R H := fun A lv s x S r => by
  cases r
  obtain ⟨oe, vs, e1, e2, e3, e4, e5, e6⟩ := S.objs _ _ he
  obtain ⟨od, es, ep, eD, hdat, hk, hz, hr⟩ := S.objs _ _ hd
  obtain ⟨c0, d0, dt, sl⟩ := oe
  dsimp only at e2 e3 e4
  subst e2 e3 e4
  have X : K.In s.heap := fun a o e => S.keep a o (P a o e)
  have I : InstAt s.heap e ⟨.ref c, some d, .fields vs, sl⟩ c (some od) := ⟨e1, rfl, rfl, eD⟩
  have hu := hr name
  rw [hm] at hu
  obtain ⟨u, hf, hu⟩ := hu.get
  obtain ⟨cd, hcd, hh⟩ := any_some hc.mro
  simp only [Bool.and_eq_true] at hh
  have hfo : findObj K c (some od) name = some (.value u) := by
    unfold findObj
    rw [hcd, hx]
    simp only [Option.bind_some]
    unfold W.ownOf
    rw [hh.1]
    simp [lookIn_ns hdat hk, hf]
  have hh2 := hu.handed hv
  obtain ⟨rs, hm0⟩ := excMro_tail hh.2
  have ne : cd.mro.isEmpty = false := by rw [hm0]; cases rs <;> rfl
  have has : cd.mro.contains (.type "BaseException") = true := by rw [hm0]; simp
  have hS := S.toks (s.toks + 1)
  obtain ⟨hp, g, dr, tk, os⟩ := s
  dsimp only at X I hu hS
  have L0 := I.type (M := C.M)
  have L1 := looks_findIn (M := C.M) X hc.get
  have Lh : Looks C.M hp (hookBefore (.ref c)) none := looks_hook X (by rw [if_pos (by rfl)]; exact hc.hook)
  have sub : Looks C.M hp (isInstance (.ref e) (.type "BaseException")) true := L0.andThen (looks_mroIn X (by unfold mroIn; rw [hcd, Option.bind_some, if_neg (by rw [ne]; decide), has]))
  have FA := PySem.F.excAttr_ValueError
  unfold getAttr getAttrBy
  refine wpAny_bind (wpAny_mkText (wpAny_holding (wpAny_bind (L0.at (wpAny_bind (L1.at ?_))))))
  dsimp only
  rw [if_neg (by rw [show (Value.builtin "BaseException.__getattribute__" == Value.builtin "object.__getattribute__") = false from by decide +kernel, Bool.and_false]; decide)]
  refine wpAny_bind (Lh.at (wpAny_bind (wpAny_attempt (wpAny_holding ?_))))
  unfold callGetattribute
  rw [if_neg (by decide +kernel)]
  unfold boundAndCalled
  rw [FA.ga.bind]
  refine wpAny_bind (wpAny_pure ?_)
  refine wpAny_call ?_
  refine codeAny_call_builtin FA.ga.plain PySem.F.entry_bexc_ga ?_
  refine @check_slot C.M _ _ ⟨hp, g, dr, tk + 1, os⟩ "BaseException.__getattribute__" "BaseException" "__getattribute__" (.ref e) [.str name tk] [] _ (by decide +kernel) (by decide +kernel) sub (PySem.F.args_bexc_ga (.ref e) (.str name tk)) ?_
  unfold Builtin.«object.__getattribute__»
  refine wpAny_bind (wpAny_pure (wpAny_bind (wpAny_pure (wpAny_bind (L0.at (wpAny_bind ((looks_find (M := C.M) X I hfo).at ?_)))))))
  refine wpAny_pure ?_
  show wpAny C.M A (handedOut u) _ _ _
  rw [handedOut_of hh2]
  exact wpAny_pure (Post.here h hS hu rfl)
end Mine

set_option Elab.async false
set_option maxRecDepth 100000
set_option linter.unusedVariables false
namespace Mine
open PySem PySem.W PyProof.Rows
variable {C : Cx} {k : Nat} {K : Frag} {env : Env} {ρ : Rho} {H : Hp} {Q R : V → Hp → Prop}

/-- an object that nobody owned is taken up as it is -/
theorem Sim.take {s : Shared} {b : Addr} {ob : Obj} {o : O} (S : Sim C H s) (hb : s.heap.get? b = some ob) (nb : ∀ xs n, ob.data ≠ .seq xs n) (nd : ∀ es ep, ob.data ≠ .dict es ep) (Hb : H b = none) (new : C.base.get? b = none) (nsys : b ≠ sysModules)
    (hr : ORel C s.heap (H.set b o) b o) : Sim C (H.set b o) s := by
  have EV : ExtV H s.heap (H.set b o) s.heap := fun a oa xs n e d m => by
    have hne : a ≠ b := fun q => by subst q; rw [hb] at e; cases e; exact nb _ _ d
    exact ⟨.of e, by unfold Hp.set; rw [if_neg hne]; exact m⟩
  refine ⟨S.keep, S.gens, S.os, fun a o' e => ?_, fun a e => ?_, S.frs.keep fun L o' es ep e n d => ⟨?_, e⟩⟩
  · unfold Hp.set at e
    split at e
    · rename_i q; subst q; cases e; exact hr
    · exact (S.objs a o' e).same EV rfl
  · unfold Hp.set at e
    split at e
    · rename_i q; subst q; exact ⟨new, nsys⟩
    · exact S.new a e
  · have hne : L ≠ b := fun q => by subst q; rw [hb] at e; cases e; exact nd _ _ d
    unfold Hp.set; rw [if_neg hne]; exact n

structure ExcMk (C : Cx) (c fI : Addr) : Prop where
  all : ∃ nm q N bs bm hdct sn sub ab col dd k0 k1 k2 k3 k5 mN oI, C.base.get? c = some (excClassObj nm q c N bs bm hdct sn sub ab col dd k0 k1 k2 k3 k5 "ValueError.__new__") ∧ OwnTail C.base [.type "ValueError", .type "Exception", .type "BaseException", .type "object"] bm ∧
    C.base.Ns N mN ∧ mN "__init__" = some (.ref fI) ∧ C.base.get? fI = some oI ∧ oI.cls = .type "function"
theorem CallW.mkExc {c fI : Addr} {Sp : SpecT} {args : List V} (hc : ExcMk C c fI) (init : FnOK C k (.ref fI) Sp) (hn : args.length ≤ 100)
    (h : ∀ e, H e = none → Sp (.ref e :: args) (fun r H' => r = .none ∧ Q (.ref e) H') R (H.set e (.exc c none none))) : CallW C (k + 1) (.ref c) args Q R H := fun A lv s xs S r => by
  obtain ⟨nm, q, N, bs, bm, hdct, sn, sub, ab, col, dd, k0, k1, k2, k3, k5, mN, oI, hC, hT, hN, hi, hfI, hfc⟩ := hc.all
  have T₁ := hT.keeps S.keep
  have hN₁ : s.heap.Ns N mN := hN.keeps S.keep
  have hl : xs.length = args.length := r.length
  have hsz := sizeLine_eq
  obtain ⟨hp, g, dr, tk, os⟩ := s
  dsimp only at T₁ hN₁
  refine call_initT PySem.F.excBase_ValueError T₁ (S.keep _ _ hC) hN₁ hi (S.keep _ _ hfI) hfc (fun h' e hz hm => ?_) (by omega)
  obtain ⟨t, he, htn, ht⟩ := hm.there
  have S1 : Sim C H ⟨h', g, dr, tk, os⟩ := S.grown (s' := ⟨h', g, dr, tk, os⟩) hm.keeps rfl rfl
  have hH : H e = none := S.fresh hz
  have S2 : Sim C (H.set e (.exc c none none)) ⟨h', g, dr, tk, os⟩ := S1.take he (fun _ _ q => by cases q) (fun _ _ q => by cases q) hH (S.freshB hz) (S.freshS hz) ⟨_, _, he, rfl, rfl, rfl, by simp, rfl⟩
  have E2 : Ext H hp (H.set e (.exc c none none)) h' := ⟨fun a o ea _ => .of (hm.keeps a o ea), fun a o ea n => by
    have : a ≠ e := fun q => by rw [q, hm.new] at ea; cases ea
    unfold Hp.set; rw [if_neg this]; exact n, fun a o ea => ⟨o, hm.keeps a o ea⟩⟩
  obtain ⟨w1, w2⟩ := under_typeCall A c xs []
  have lv' : Lv C k (A.under (.builtin "type.__call__" ⟨.ref c :: xs, []⟩)) :=
    ⟨fun e => lv.handled e, by have := lv.depth; show A.depth + Code.weight _ + 2 * k + 100 < _; rw [w1]; omega, by have := lv.units; show A.units + Code.cUnits _ + 40 * k + 100 < _; rw [w2]; omega, fun l e => lv.frames l e⟩
  refine wpAny_call (codeAny_mono (init _ lv' _ _ (.ref e :: args) (.ref e :: xs) _ _ S2 (.cons (.ref _) (r.ext E2)) (h e hH)) fun r s' z => ?_)
  rcases r with x | (_ | _ | _ | v)
  · exact Post.after E2 z
  · exact z.elim
  · exact z.elim
  · exact z.elim
  · obtain ⟨v', H', ⟨hv, qq⟩, S', rv, E'⟩ := z
    subst hv
    have : v = .none := by cases rv; rfl
    exact ⟨this, _, H', qq, S', .ref _, E2.trans E'⟩
end Mine

set_option Elab.async false
set_option maxRecDepth 100000
set_option linter.unusedVariables false
namespace Mine
open PySem PySem.W PyProof.Rows
section
variable {M : Model} {A : Around} {E : Value → Shared → Prop} {env : Env}
variable {nm q : Str} {C N : Addr} {bs bm : List Value} {hdct : Bool} {sn : List Str} {sub : List Value} {ab : Bool} {col : Option Bool} {dd : Option Addr} {k0 k1 k2 k3 k5 : Option Value} {newId : String}
theorem raiseStmt_made {s : Shared} {x : Sem Value} {Q : Flow → Shared → Prop} (hbase : bm.contains (.type "BaseException") = true) (hh : A.handled = none)
    (h : wpAny M A x (fun v s₁ => ∃ e d vs sl, v = .ref e ∧ s₁.heap.get? C = some (excClassObj nm q C N bs bm hdct sn sub ab col dd k0 k1 k2 k3 k5 newId) ∧
      s₁.heap.get? e = some { cls := .ref C, dict := d, data := .fields vs, slots := sl } ∧ vs[1]? = some .none ∧ E (.ref e) s₁) E s) :
    wpAny M A (raiseStmt env (some x) none) Q E s := by
  have hcB : (Value.ref C :: bm).contains (.type "BaseException") = true := by rw [List.contains_cons, hbase, Bool.or_true]
  unfold raiseStmt
  refine wpAny_bind (wpAny_mono h (fun v s₁ h₁ => ?_) fun _ _ x => x)
  obtain ⟨e, d0, vs, sl, rfl, hC, he, h1, hE⟩ := h₁
  obtain ⟨hp, g, d, tk, os⟩ := s₁
  repeat (first | with_reducible refine wpAny_loadPart_at he ?_ | with_reducible refine wpAny_loadPart_at hC ?_ | (with_reducible refine wpAny_isSubtype_exc hC ?_; rw [hcB]) | with_reducible refine wpAny_field he rfl h1 ?_ | wp_step)
  exact wpAny_raiseNew_none hh hE
end
variable {C : Cx} {k : Nat} {K : Frag} {env : Env} {ρ : Rho} {H : Hp} {QS : Fl → Rho → Hp → Prop} {RS : V → Rho → Hp → Prop}
theorem ExecW.raise_ {ex pos} {c : Addr} (hd : C.hd = true) (hc : ExcCls C c) (h : EvalW C k env ex (fun v H' => ∃ x d, v = .ref x ∧ H' x = some (.exc c d none) ∧ RS v ρ H') (fun v H' => RS v ρ H') ρ H) : ExecW C k env (.Raise (some ex) none pos) QS RS ρ H := fun A a s S => by
  obtain ⟨nm, q, N, bs, bm, hdct, sn, sub, ab, col, dd, k0, k1, k2, k3, k5, hC, hT⟩ := hc.tail
  rw [arm_exec_Raise]
  refine wpAny_bind (wpAny_standAt ?_)
  show wpAny C.M A (raiseStmt env (some (do let v ← eval ex env; standAt pos; pure v)) none) _ _ _
  refine raiseStmt_made (C := c) (nm := nm) (q := q) (N := N) (bs := bs) (bm := bm) (hdct := hdct) (sn := sn) (sub := sub) (ab := ab) (col := col) (dd := dd) (k0 := k0) (k1 := k1) (k2 := k2) (k3 := k3) (k5 := k5) (newId := "ValueError.__new__") (hT.hasType (by decide)) (a.handled hd) (wpAny_bind (wpAny_mono (h A a s S) (fun v s₁ h₁ => wpAny_bind (wpAny_standAt (wpAny_pure ?_))) fun _ _ p => p.toX S))
  obtain ⟨v', H', ⟨x, d, rfl, hx, hR⟩, S', rv, E'⟩ := h₁
  cases rv
  obtain ⟨oe, vs, e1, e2, e3, e4, e5, e6⟩ := S'.objs _ _ hx
  obtain ⟨c0, d0, dt, sl⟩ := oe
  dsimp only at e2 e3 e4
  subst e2 e3 e4
  exact ⟨x, d0, vs, sl, rfl, S'.keep _ _ hC, e1, e6, .ref x, ρ, H', hR, .ref _, S.ext S' E', E'.toF⟩
end Mine

set_option Elab.async false
set_option maxRecDepth 100000
set_option linter.unusedVariables false
namespace Mine
open PySem PySem.W PyProof.Rows
variable {C : Cx} {k : Nat} {K : Frag} {env : Env} {ρ : Rho} {H : Hp} {QS : Fl → Rho → Hp → Prop} {RS : V → Rho → Hp → Prop}

/-- the same, but an exception may be in hand -/
abbrev Cx.low0 (C : Cx) : Cx := { C with hd := false }
theorem Sim.to0 {s : Shared} (S : Sim C H s) : Sim C.low0 H s := ⟨S.keep, S.gens, S.os, S.objs, S.new, S.frs⟩
theorem Sim.of0 {s : Shared} (S : Sim C.low0 H s) : Sim C H s := ⟨S.keep, S.gens, S.os, S.objs, S.new, S.frs⟩
theorem SimL.to0 {s : Shared} (S : SimL C env ρ H s) : SimL C.low0 env ρ H s := ⟨S.sim.to0, S.kind, S.globals, S.builtins, let ⟨m, cm, F, r⟩ := S.frm; ⟨m, cm, ⟨F.ns, F.cell, F.own, F.ownc, F.above, F.abovec, F.apart⟩, r⟩⟩
theorem SimL.of0 {s : Shared} (S : SimL C.low0 env ρ H s) : SimL C env ρ H s := ⟨S.sim.of0, S.kind, S.globals, S.builtins, let ⟨m, cm, F, r⟩ := S.frm; ⟨m, cm, ⟨F.ns, F.cell, F.own, F.ownc, F.above, F.abovec, F.apart⟩, r⟩⟩
theorem Lv.to0 {A : Around} (a : Lv C k A) (x : Option Value) : Lv C.low0 k (A.mark x) := ⟨(fun q => by cases q), a.depth, a.units, a.frames⟩

/-- the name of the clause is let go of -/
theorem nameGoes_W {A : Around} {s : Shared} {n : Str} {pos : Pos} {P : Unit → Shared → Prop} {E : Value → Shared → Prop} (hl : env.kindOf n = some .local) (S : SimL C env ρ H s)
    (h : ∀ s', SimL C env (fun _ => none) H s' → ExtF env H s.heap H s'.heap → ExtV H s.heap H s'.heap → P () s') : wpAny C.M A (do bindName env n .none; unbindBehindTheSuite env n pos) P E s := by
  obtain ⟨m, cm, F, rr⟩ := S.frm
  refine wpAny_nameGoes hl F.ns (by rw [S.kind]; rfl) fun h' m' hn hs => ?_
  obtain ⟨oL, eL, nL⟩ := ns_noseq F.ns
  have hk' : ∀ a o, a ≠ env.locals → s.heap.get? a = some o → h'.get? a = some o := fun a o n e => hs.extBut a o n e
  have S1 : Sim C H { s with heap := h', toks := s.toks + 1 } := S.sim.touch (s' := { s with heap := h', toks := s.toks + 1 }) eL nL F.own F.above hk' rfl rfl (.inl (ns_dict hn))
  have V1 : ExtV H s.heap H h' := ExtV.but eL nL hk'
  obtain ⟨oL', eL', _⟩ := ns_noseq hn
  refine h _ ⟨S1, S.kind, S.globals, S.builtins, m', cm, ⟨hn, fun n c e => ?_, F.own, F.ownc, F.above, F.abovec, F.apart⟩, fun y w e => by cases e⟩ ⟨fun a o e _ n _ => .of (hk' a o n e), fun a o e n => n, fun a o e => ?_⟩ V1
  · have := F.cell n c e
    refine this.sameBut hs fun q => ?_
    obtain ⟨oc, ec, dc⟩ := this
    subst q; obtain ⟨o, es, ep, e1, d1, _⟩ := F.ns; rw [e1] at ec; cases ec; rw [d1] at dc; cases dc
  · by_cases q : a = env.locals
    · subst q; exact ⟨oL', eL'⟩
    · exact ⟨o, hk' a o q e⟩
theorem FlRel.extV {h h' : Heap} {H H' : Hp} (E : ExtV H h H' h') : ∀ {fl : Fl} {f : Flow}, FlRel h H fl f → FlRel h' H' fl f
  | .next, .next, _ => trivial
  | .brk, .brk, _ => trivial
  | .cont, .cont, _ => trivial
  | .ret _, .ret _, r => VRel.extV E r
/-- behind the clause: the exception's entry was written and has landed -/
def Caught (Hd : Addr → Rho → Hp → Prop) (L : Addr) : V → Rho → Hp → Prop := fun v ρ H => ∃ e c d T0, v = .ref e ∧ H e = some (.exc c d T0) ∧ (T0 = none ∨ ∃ T, T0 = some T ∧ H T = some (.tb none)) ∧
  ∀ H' T', H' e = some (.exc c d (some T')) → H' T' = some (.tb none) → (∀ b, b ≠ e → (∀ fl, H b ≠ some (.tb fl)) → H b ≠ none → H' b = H b) → Hd e ρ H'
theorem ExecW.try_as {body : List Stmt} {t : Expr} {n : Str} {b₀ : Stmt} {suite : List Stmt} {hpos pos : Pos} {L cX : Addr} {l : List Env} (P : PCx C K) (hC : C.frs = some (env :: l)) (hf : env.frame = some L) (hn : env.kindOf n = some .local)
    (ht : ∀ ρ H, EvalW C.low0 k env t (fun v H' => v = .con (.ref cX) ∧ H' = H) (fun _ _ => False) ρ H)
    (hq : ∀ fl ρ H, QS fl ρ H → fl ≠ .next → QS fl (fun _ => none) H) (hnext : ∀ ρ H, ¬ QS .next ρ H)
    (h : ExecsW C k env body QS (Caught (fun e ρ' H' => ∃ c d T, H' e = some (.exc c d T) ∧ exmOne K (.ref c) (.ref cX) = some true ∧ ExecsW C.low0 k env (b₀ :: suite) QS (fun _ _ _ => False) (ρ'.set n (.ref e)) H') L) ρ H) :
    ExecW C k env (.Try body [.ExceptHandler (some t) (some n) (b₀ :: suite) hpos] [] [] pos) QS RS ρ H := fun A a s S => by
  have hA := a.frames _ hC
  refine wpAny_Try_except (wpAny_mono (h A a s S) ?_ ?_)
  · rintro f s' ⟨fl, ρ', H', q, rf, S', E'⟩
    cases f <;> cases fl <;> first | exact rf.elim | exact absurd q (hnext _ _) | exact ⟨_, ρ', H', q, rf, S', E'⟩
  · rintro e s₁ ⟨v, ρ₁, H₁, ⟨x, c, d, T0, rfl, hx, hT, hH⟩, rv, S₁, E₁⟩
    cases rv
    refine note_W hA hC hf S₁.sim hx (fun T z => by rcases hT with q | ⟨T', q, w⟩ <;> rw [q] at z <;> cases z; exact w) fun s₂ T' nT S₂ E₂ => ?_
    have hne : T' ≠ x := fun z => by rw [z, hx] at nT; cases nT
    have h1 : ((H₁.set T' (.tb (some L))).set x (.exc c d (some T'))) x = some (.exc c d (some T')) := by simp [Hp.set]
    have h2 : ((H₁.set T' (.tb (some L))).set x (.exc c d (some T'))) T' = some (.tb (some L)) := by simp [Hp.set, hne]
    refine land_W S₂ h1 h2 fun s₃ S₃ E₃ => ?_
    have g1 : (((H₁.set T' (.tb (some L))).set x (.exc c d (some T'))).set T' (.tb none)) x = some (.exc c d (some T')) := by simp [Hp.set, hne.symm]
    have g2 : (((H₁.set T' (.tb (some L))).set x (.exc c d (some T'))).set T' (.tb none)) T' = some (.tb none) := by simp [Hp.set]
    obtain ⟨c', d', T'', g3, hm, hsuite⟩ := hH _ T' g1 g2 fun b hb nt nn => by
      have hbT : b ≠ T' := fun z => by rw [z, nT] at nn; exact nn rfl
      simp [Hp.set, hb, hbT]
    rw [g1] at g3
    cases g3
    have SL₃ := S₁.ext S₃ (E₂.trans E₃)
    have E₁₃ := E₁.trans (E₂.trans E₃).toF
    generalize ((H₁.set T' (.tb (some L))).set x (.exc c d (some T'))).set T' (.tb none) = H₃ at S₃ SL₃ E₁₃ g1 g2 hsuite
    clear E₂ E₃ S₂ h1 h2
    have av := a.to0 (some (.ref x))
    refine wpAny_handleBy_cons (codeAny_handlers_test (wpAny_mono (ht ρ₁ H₃ _ av s₃ SL₃.to0) (fun cv s₄ h₄ => ?_) fun _ _ z => ?_)) (by intro q; cases q)
    · obtain ⟨v', H₄, ⟨rfl, rfl⟩, S₄, rv, E₄⟩ := h₄
      cases rv
      have S₄ := S₄.of0
      obtain ⟨oe, vs, e1, e2, _⟩ := S₄.objs _ _ g1
      have LT : Looks C.M s₄.heap (typeOf (.ref x)) (.ref c) := e2 ▸ (Looks.ld e1).andThen .now
      refine (exm_one (M := C.M) (P.at S₄) LT hm).here ?_
      have SL₄ := SL₃.ext S₄ E₄
      refine codeAny_handlers_suite_as ?_
      refine land_W S₄ g1 g2 fun s₅ S₅ E₅ => ?_
      have hset : H₄.set T' (.tb none) = H₄ := by
        funext b; unfold Hp.set; split
        · rename_i z; rw [z, g2]
        · rfl
      rw [hset] at S₅ E₅
      have SL₅ := SL₄.ext S₅ E₅
      refine store_local (C := C) hn SL₅ (.ref x) fun s₆ S₆ E₆ _ _ => ?_
      refine wpAny_mono (hsuite _ av s₆ S₆.to0) ?_ ?_
      · rintro f s₇ ⟨fl, ρ₇, H₇, q, rf, S₇, E₇⟩
        refine nameGoes_W hn S₇.of0 fun s₈ S₈ E₈ V₈ => ?_
        have hne' : fl ≠ .next := fun z => hnext _ _ (z ▸ q)
        exact ⟨fl, _, H₇, hq _ _ _ q hne', rf.extV V₈, S₈, (((E₁₃.trans E₄.toF).trans E₅.toF).trans E₆).trans (E₇.trans E₈)⟩
      · rintro e' s₇ ⟨_, _, _, q, _⟩; exact q.elim
    · obtain ⟨_, _, q, _⟩ := z; exact q.elim
end Mine

set_option Elab.async false
set_option maxRecDepth 100000
set_option linter.unusedVariables false
namespace Mine
open PySem PySem.W PyProof.Rows
variable {C : Cx} {k : Nat} {K : Frag} {env : Env} {ρ : Rho} {H : Hp} {Q : Fl → Rho → Hp → Prop} {R : V → Rho → Hp → Prop} {l : List Env} {L : Addr}

/-- an exception that was just made and leaves a loop -/
def LoopX (L : Addr) (R : V → Rho → Hp → Prop) : V → Rho → Hp → Prop := fun v ρ H => ∃ e c d, v = .ref e ∧ H e = some (.exc c d none) ∧ ∀ T, H T = none → T ≠ e → R (.ref e) ρ ((H.set T (.tb (some L))).set e (.exc c d (some T)))

/-- out of an activation of its own: in flight here again -/
theorem back_W {A : Around} {s : Shared} {e c T : Addr} {d : Option Addr} {E : Value → Shared → Prop} (hf : env.frame = some L) (S : Sim C H s) (he : H e = some (.exc c d (some T))) (hT : H T = some (.tb (some L)))
    (h : ∀ s', Sim C H s' → Ext H s.heap H s'.heap → E (.ref e) s') : cameBackBy C.M A env E (.ref e) s := by
  obtain ⟨oe, vs, e1, e2, e3, e4, e5, e6⟩ := S.objs _ _ he
  obtain ⟨oT, ts, t1, t2, t3⟩ := S.objs _ _ hT
  have e6 : vs[1]? = some (.ref T) := e6
  have t3 : ts[3]? = some (rawInt L) := t3
  have hsz := (Array.getElem?_eq_some_iff.mp t3).1
  unfold cameBackBy
  refine wpAny_bind (wpAny_field e1 e4 e6 ?_)
  rw [if_neg (show ¬ ((Value.ref T == Value.none) = true) from by simp)]
  rw [hf]
  unfold setFlight
  refine wpAny_bind (wpAny_field e1 e4 e6 ?_)
  rw [if_pos (show (Value.ref T != Value.none) = true from by simp)]
  refine wpAny_setField t1 t2 hsz ?_
  have hd3 := Obj.data_mapFields t2 (·.setIfInBounds 3 (rawInt L))
  have ht3 := Heap.get?_update_self (Obj.mapFields (·.setIfInBounds 3 (rawInt L))) t1 (Obj.isFreed_of_fields hd3)
  obtain ⟨S1, E1⟩ := S.update (s' := { s with heap := s.heap.update T (Obj.mapFields (·.setIfInBounds 3 (rawInt L))) }) (o' := .tb (some L)) hT (.update ..) ⟨_, ht3⟩ rfl rfl ⟨_, _, ht3, hd3, by simp [hsz]⟩
  have hset : H.set T (.tb (some L)) = H := by
    funext b; unfold Hp.set; split
    · rename_i z; rw [z, hT]
    · rfl
  rw [hset] at S1 E1
  exact h _ S1 E1
end Mine

set_option Elab.async false
set_option maxRecDepth 100000
set_option maxHeartbeats 8000000
namespace Mine
open PySem PySem.W PyProof.Rows
noncomputable def K01 (P : Params) : Frag := [
  (2, (Obj.mk Value.none Option.none (Data.dict (List.toArray []) 0) (List.toArray []))),
  (3, (Obj.mk (Value.type "dict") Option.none (Data.dict (List.toArray [(DictEntry.mk (PyData.keyHash P (Str.ofString "__name__")) (Value.str (Str.ofString "__name__") 165) (Value.str (Str.ofString "law_uf060008_01") 295)), (DictEntry.mk (PyData.keyHash P (Str.ofString "__doc__")) (Value.str (Str.ofString "__doc__") 166) Value.none), (DictEntry.mk (PyData.keyHash P (Str.ofString "__package__")) (Value.str (Str.ofString "__package__") 167) Value.none), (DictEntry.mk (PyData.keyHash P (Str.ofString "__loader__")) (Value.str (Str.ofString "__loader__") 168) (Value.builtin "__main__.__loader__#opaque")), (DictEntry.mk (PyData.keyHash P (Str.ofString "__spec__")) (Value.str (Str.ofString "__spec__") 169) Value.none), (DictEntry.mk (PyData.keyHash P (Str.ofString "__annotations__")) (Value.str (Str.ofString "__annotations__") 170) (Value.ref 6)), (DictEntry.mk (PyData.keyHash P (Str.ofString "__builtins__")) (Value.str (Str.ofString "__builtins__") 171) (Value.ref 4)), (DictEntry.mk (PyData.keyHash P (Str.ofString "__file__")) (Value.str (Str.ofString "__file__") 173) (Value.str (Str.ofString "/claim/cut.py") 172)), (DictEntry.mk (PyData.keyHash P (Str.ofString "__cached__")) (Value.str (Str.ofString "__cached__") 174) Value.none), (DictEntry.mk (PyData.keyHash P (Str.ofString "BellError")) (Value.str (Str.ofString "BellError") 206) (Value.ref 24)), (DictEntry.mk (PyData.keyHash P (Str.ofString "BadWaits")) (Value.str (Str.ofString "BadWaits") 231) (Value.ref 44)), (DictEntry.mk (PyData.keyHash P (Str.ofString "NoHand")) (Value.str (Str.ofString "NoHand") 247) (Value.ref 56)), (DictEntry.mk (PyData.keyHash P (Str.ofString "NoLetter")) (Value.str (Str.ofString "NoLetter") 263) (Value.ref 68)), (DictEntry.mk (PyData.keyHash P (Str.ofString "MOST_HANDS")) (Value.str (Str.ofString "MOST_HANDS") 267) (Value.int 40 266)), (DictEntry.mk (PyData.keyHash P (Str.ofString "is_place")) (Value.str (Str.ofString "is_place") 275) (Value.ref 77)), (DictEntry.mk (PyData.keyHash P (Str.ofString "is_wait")) (Value.str (Str.ofString "is_wait") 285) (Value.ref 84)), (DictEntry.mk (PyData.keyHash P (Str.ofString "need")) (Value.str (Str.ofString "need") 294) (Value.ref 91)), (DictEntry.mk (PyData.keyHash P (Str.ofString "_law_cell_at")) (Value.str (Str.ofString "_law_cell_at") 304) (Value.ref 98)), (DictEntry.mk (PyData.keyHash P (Str.ofString "_law_mixed")) (Value.str (Str.ofString "_law_mixed") 313) (Value.ref 105)), (DictEntry.mk (PyData.keyHash P (Str.ofString "_law_wait_by")) (Value.str (Str.ofString "_law_wait_by") 324) (Value.ref 112)), (DictEntry.mk (PyData.keyHash P (Str.ofString "_law_odd")) (Value.str (Str.ofString "_law_odd") 337) (Value.ref 119)), (DictEntry.mk (PyData.keyHash P (Str.ofString "_law_said")) (Value.str (Str.ofString "_law_said") 346) (Value.ref 126)), (DictEntry.mk (PyData.keyHash P (Str.ofString "_law_spoiled")) (Value.str (Str.ofString "_law_spoiled") 352) (Value.ref 131)), (DictEntry.mk (PyData.keyHash P (Str.ofString "_law_made")) (Value.str (Str.ofString "_law_made") 358) (Value.ref 136)), (DictEntry.mk (PyData.keyHash P (Str.ofString "law")) (Value.str (Str.ofString "law") 367) (Value.ref 143))]) 25) (List.toArray []))),
  (6, (Obj.mk (Value.type "dict") Option.none (Data.dict (List.toArray []) 0) (List.toArray []))),
  (23, (Obj.mk (Value.type "dict") Option.none (Data.dict (List.toArray [(DictEntry.mk (PyData.keyHash P (Str.ofString "__module__")) (Value.str (Str.ofString "__module__") 196) (Value.str (Str.ofString "stuckbell.errors") 187)), (DictEntry.mk (PyData.keyHash P (Str.ofString "__firstlineno__")) (Value.str (Str.ofString "__firstlineno__") 200) (Value.int 2 199)), (DictEntry.mk (PyData.keyHash P (Str.ofString "__static_attributes__")) (Value.str (Str.ofString "__static_attributes__") 201) (Value.ref 22)), (DictEntry.mk (PyData.keyHash P (Str.ofString "__weakref__")) (Value.str (Str.ofString "__weakref__") 203) (Value.ref 25)), (DictEntry.mk (PyData.keyHash P (Str.ofString "__doc__")) (Value.str (Str.ofString "__doc__") 204) Value.none)]) 3) (List.toArray []))),
  (24, (Obj.mk (Value.type "type") Option.none (Data.cls (ClassData.mk (Str.ofString "BellError") [(Value.type "ValueError")] [(Value.ref 24), (Value.type "ValueError"), (Value.type "Exception"), (Value.type "BaseException"), (Value.type "object")] 23 (Str.ofString "BellError") Bool.true [] [(Value.ref 44), (Value.ref 56), (Value.ref 68)] Bool.false Option.none Bool.false)) (List.toArray [(Option.some (Value.ref 15)), Option.none, (Option.some (Value.str (Str.ofString "BellError") 189)), (Option.some (Value.str (Str.ofString "BellError") 197)), (Option.some (Value.builtin "ValueError.__new__")), (Option.some (Value.bool Bool.true))]))),
  (25, (Obj.mk (Value.type "getset_descriptor") Option.none (Data.fields (List.toArray [(Value.str (Str.ofString "__weakref__") 202), (Value.ref 24), (Value.builtin "ExceptionGroup.__weakref__"), Value.none])) (List.toArray []))),
  (40, (Obj.mk (Value.type "code") Option.none (Data.fields (List.toArray [(Value.str (Str.ofString "__init__") 219), (Value.str (Str.ofString "BadWaits.__init__") 220), (Value.str (Str.ofString "/claim/cut.py") 221), (Value.int 6 0), (Value.int 2 0), (Value.int 0 0), (Value.int 0 0), (Value.int 3 0), (Value.ref 35), (Value.bool Bool.true), (Value.int 181 0), (Value.ref 36), Value.none, (Value.ref 37), (Value.ref 38), (Value.ref 39), (Value.int 224 0), (Value.int 6 0), (Value.str (Str.ofString "/claim/cut.py") 225)])) (List.toArray []))),
  (41, fobj (stIn PySem.Challenge.rw_uf060008_01.prog 2 0) (Str.ofString "__init__") (Str.ofString "BadWaits.__init__") Value.none Value.none Value.none (Value.str (Str.ofString "stuckbell.errors") 187) Option.none (Value.ref 40) Value.none),
  (43, (Obj.mk (Value.type "dict") Option.none (Data.dict (List.toArray [(DictEntry.mk (PyData.keyHash P (Str.ofString "__module__")) (Value.str (Str.ofString "__module__") 214) (Value.str (Str.ofString "stuckbell.errors") 187)), (DictEntry.mk (PyData.keyHash P (Str.ofString "__firstlineno__")) (Value.str (Str.ofString "__firstlineno__") 218) (Value.int 4 217)), (DictEntry.mk (PyData.keyHash P (Str.ofString "__init__")) (Value.str (Str.ofString "__init__") 226) (Value.ref 41)), (DictEntry.mk (PyData.keyHash P (Str.ofString "__static_attributes__")) (Value.str (Str.ofString "__static_attributes__") 228) (Value.ref 42)), (DictEntry.mk (PyData.keyHash P (Str.ofString "__doc__")) (Value.str (Str.ofString "__doc__") 229) Value.none)]) 2) (List.toArray []))),
  (44, (Obj.mk (Value.type "type") Option.none (Data.cls (ClassData.mk (Str.ofString "BadWaits") [(Value.ref 24)] [(Value.ref 44), (Value.ref 24), (Value.type "ValueError"), (Value.type "Exception"), (Value.type "BaseException"), (Value.type "object")] 43 (Str.ofString "BadWaits") Bool.true [] [] Bool.false Option.none Bool.false)) (List.toArray [(Option.some (Value.ref 28)), Option.none, (Option.some (Value.str (Str.ofString "BadWaits") 207)), (Option.some (Value.str (Str.ofString "BadWaits") 215)), (Option.some (Value.builtin "ValueError.__new__")), (Option.some (Value.bool Bool.true))]))),
  (55, (Obj.mk (Value.type "dict") Option.none (Data.dict (List.toArray [(DictEntry.mk (PyData.keyHash P (Str.ofString "__module__")) (Value.str (Str.ofString "__module__") 239) (Value.str (Str.ofString "stuckbell.errors") 187)), (DictEntry.mk (PyData.keyHash P (Str.ofString "__firstlineno__")) (Value.str (Str.ofString "__firstlineno__") 243) (Value.int 9 242)), (DictEntry.mk (PyData.keyHash P (Str.ofString "__static_attributes__")) (Value.str (Str.ofString "__static_attributes__") 244) (Value.ref 54)), (DictEntry.mk (PyData.keyHash P (Str.ofString "__doc__")) (Value.str (Str.ofString "__doc__") 245) Value.none)]) 2) (List.toArray []))),
  (56, (Obj.mk (Value.type "type") Option.none (Data.cls (ClassData.mk (Str.ofString "NoHand") [(Value.ref 24)] [(Value.ref 56), (Value.ref 24), (Value.type "ValueError"), (Value.type "Exception"), (Value.type "BaseException"), (Value.type "object")] 55 (Str.ofString "NoHand") Bool.true [] [] Bool.false Option.none Bool.false)) (List.toArray [(Option.some (Value.ref 47)), Option.none, (Option.some (Value.str (Str.ofString "NoHand") 232)), (Option.some (Value.str (Str.ofString "NoHand") 240)), (Option.some (Value.builtin "ValueError.__new__")), (Option.some (Value.bool Bool.true))]))),
  (67, (Obj.mk (Value.type "dict") Option.none (Data.dict (List.toArray [(DictEntry.mk (PyData.keyHash P (Str.ofString "__module__")) (Value.str (Str.ofString "__module__") 255) (Value.str (Str.ofString "stuckbell.errors") 187)), (DictEntry.mk (PyData.keyHash P (Str.ofString "__firstlineno__")) (Value.str (Str.ofString "__firstlineno__") 259) (Value.int 11 258)), (DictEntry.mk (PyData.keyHash P (Str.ofString "__static_attributes__")) (Value.str (Str.ofString "__static_attributes__") 260) (Value.ref 66)), (DictEntry.mk (PyData.keyHash P (Str.ofString "__doc__")) (Value.str (Str.ofString "__doc__") 261) Value.none)]) 2) (List.toArray []))),
  (68, (Obj.mk (Value.type "type") Option.none (Data.cls (ClassData.mk (Str.ofString "NoLetter") [(Value.ref 24)] [(Value.ref 68), (Value.ref 24), (Value.type "ValueError"), (Value.type "Exception"), (Value.type "BaseException"), (Value.type "object")] 67 (Str.ofString "NoLetter") Bool.true [] [] Bool.false Option.none Bool.false)) (List.toArray [(Option.some (Value.ref 59)), Option.none, (Option.some (Value.str (Str.ofString "NoLetter") 248)), (Option.some (Value.str (Str.ofString "NoLetter") 256)), (Option.some (Value.builtin "ValueError.__new__")), (Option.some (Value.bool Bool.true))]))),
  (76, (Obj.mk (Value.type "code") Option.none (Data.fields (List.toArray [(Value.str (Str.ofString "is_place") 268), (Value.str (Str.ofString "is_place") 269), (Value.str (Str.ofString "/claim/cut.py") 270), (Value.int 15 0), (Value.int 2 0), (Value.int 0 0), (Value.int 0 0), (Value.int 3 0), (Value.ref 71), (Value.bool Bool.true), (Value.int 181 0), (Value.ref 72), Value.none, (Value.ref 73), (Value.ref 74), (Value.ref 75), (Value.int 273 0), (Value.int 15 0), (Value.str (Str.ofString "/claim/cut.py") 274)])) (List.toArray []))),
  (77, fobj (stAt PySem.Challenge.rw_uf060008_01.prog 7) (Str.ofString "is_place") (Str.ofString "is_place") Value.none Value.none Value.none (Value.str (Str.ofString "stuckbell.waits") 264) Option.none (Value.ref 76) Value.none),
  (83, (Obj.mk (Value.type "code") Option.none (Data.fields (List.toArray [(Value.str (Str.ofString "is_wait") 276), (Value.str (Str.ofString "is_wait") 277), (Value.str (Str.ofString "/claim/cut.py") 278), (Value.int 17 0), (Value.int 2 0), (Value.int 0 0), (Value.int 0 0), (Value.int 3 0), (Value.ref 78), (Value.bool Bool.true), (Value.int 181 0), (Value.ref 79), Value.none, (Value.ref 80), (Value.ref 81), (Value.ref 82), (Value.int 283 0), (Value.int 17 0), (Value.str (Str.ofString "/claim/cut.py") 284)])) (List.toArray []))),
  (84, fobj (stAt PySem.Challenge.rw_uf060008_01.prog 8) (Str.ofString "is_wait") (Str.ofString "is_wait") Value.none Value.none Value.none (Value.str (Str.ofString "stuckbell.waits") 264) Option.none (Value.ref 83) Value.none),
  (90, (Obj.mk (Value.type "code") Option.none (Data.fields (List.toArray [(Value.str (Str.ofString "need") 286), (Value.str (Str.ofString "need") 287), (Value.str (Str.ofString "/claim/cut.py") 288), (Value.int 30 0), (Value.int 1 0), (Value.int 0 0), (Value.int 0 0), (Value.int 3 0), (Value.ref 85), (Value.bool Bool.true), (Value.int 181 0), (Value.ref 86), Value.none, (Value.ref 87), (Value.ref 88), (Value.ref 89), (Value.int 292 0), (Value.int 30 0), (Value.str (Str.ofString "/claim/cut.py") 293)])) (List.toArray []))),
  (91, fobj (stAt PySem.Challenge.rw_uf060008_01.prog 9) (Str.ofString "need") (Str.ofString "need") Value.none Value.none Value.none (Value.str (Str.ofString "stuckbell.waits") 264) Option.none (Value.ref 90) Value.none),
  (97, (Obj.mk (Value.type "code") Option.none (Data.fields (List.toArray [(Value.str (Str.ofString "_law_cell_at") 297), (Value.str (Str.ofString "_law_cell_at") 298), (Value.str (Str.ofString "/claim/cut.py") 299), (Value.int 38 0), (Value.int 2 0), (Value.int 0 0), (Value.int 0 0), (Value.int 3 0), (Value.ref 92), (Value.bool Bool.true), (Value.int 181 0), (Value.ref 93), Value.none, (Value.ref 94), (Value.ref 95), (Value.ref 96), (Value.int 302 0), (Value.int 38 0), (Value.str (Str.ofString "/claim/cut.py") 303)])) (List.toArray []))),
  (98, fobj (stAt PySem.Challenge.rw_uf060008_01.prog 11) (Str.ofString "_law_cell_at") (Str.ofString "_law_cell_at") Value.none Value.none Value.none (Value.str (Str.ofString "law_uf060008_01") 295) Option.none (Value.ref 97) Value.none),
  (104, (Obj.mk (Value.type "code") Option.none (Data.fields (List.toArray [(Value.str (Str.ofString "_law_mixed") 305), (Value.str (Str.ofString "_law_mixed") 306), (Value.str (Str.ofString "/claim/cut.py") 307), (Value.int 42 0), (Value.int 3 0), (Value.int 0 0), (Value.int 0 0), (Value.int 3 0), (Value.ref 99), (Value.bool Bool.true), (Value.int 181 0), (Value.ref 100), Value.none, (Value.ref 101), (Value.ref 102), (Value.ref 103), (Value.int 311 0), (Value.int 42 0), (Value.str (Str.ofString "/claim/cut.py") 312)])) (List.toArray []))),
  (105, fobj (stAt PySem.Challenge.rw_uf060008_01.prog 12) (Str.ofString "_law_mixed") (Str.ofString "_law_mixed") Value.none Value.none Value.none (Value.str (Str.ofString "law_uf060008_01") 295) Option.none (Value.ref 104) Value.none),
  (111, (Obj.mk (Value.type "code") Option.none (Data.fields (List.toArray [(Value.str (Str.ofString "_law_wait_by") 314), (Value.str (Str.ofString "_law_wait_by") 315), (Value.str (Str.ofString "/claim/cut.py") 316), (Value.int 44 0), (Value.int 2 0), (Value.int 0 0), (Value.int 0 0), (Value.int 3 0), (Value.ref 106), (Value.bool Bool.true), (Value.int 181 0), (Value.ref 107), Value.none, (Value.ref 108), (Value.ref 109), (Value.ref 110), (Value.int 322 0), (Value.int 44 0), (Value.str (Str.ofString "/claim/cut.py") 323)])) (List.toArray []))),
  (112, fobj (stAt PySem.Challenge.rw_uf060008_01.prog 13) (Str.ofString "_law_wait_by") (Str.ofString "_law_wait_by") Value.none Value.none Value.none (Value.str (Str.ofString "law_uf060008_01") 295) Option.none (Value.ref 111) Value.none),
  (118, (Obj.mk (Value.type "code") Option.none (Data.fields (List.toArray [(Value.str (Str.ofString "_law_odd") 325), (Value.str (Str.ofString "_law_odd") 326), (Value.str (Str.ofString "/claim/cut.py") 327), (Value.int 53 0), (Value.int 4 0), (Value.int 0 0), (Value.int 0 0), (Value.int 3 0), (Value.ref 113), (Value.bool Bool.true), (Value.int 181 0), (Value.ref 114), Value.none, (Value.ref 115), (Value.ref 116), (Value.ref 117), (Value.int 335 0), (Value.int 53 0), (Value.str (Str.ofString "/claim/cut.py") 336)])) (List.toArray []))),
  (119, fobj (stAt PySem.Challenge.rw_uf060008_01.prog 14) (Str.ofString "_law_odd") (Str.ofString "_law_odd") Value.none Value.none Value.none (Value.str (Str.ofString "law_uf060008_01") 295) Option.none (Value.ref 118) Value.none),
  (125, (Obj.mk (Value.type "code") Option.none (Data.fields (List.toArray [(Value.str (Str.ofString "_law_said") 338), (Value.str (Str.ofString "_law_said") 339), (Value.str (Str.ofString "/claim/cut.py") 340), (Value.int 65 0), (Value.int 2 0), (Value.int 0 0), (Value.int 0 0), (Value.int 3 0), (Value.ref 120), (Value.bool Bool.true), (Value.int 181 0), (Value.ref 121), Value.none, (Value.ref 122), (Value.ref 123), (Value.ref 124), (Value.int 344 0), (Value.int 65 0), (Value.str (Str.ofString "/claim/cut.py") 345)])) (List.toArray []))),
  (126, fobj (stAt PySem.Challenge.rw_uf060008_01.prog 15) (Str.ofString "_law_said") (Str.ofString "_law_said") Value.none Value.none Value.none (Value.str (Str.ofString "law_uf060008_01") 295) Option.none (Value.ref 125) Value.none),
  (130, (Obj.mk (Value.type "code") Option.none (Data.fields (List.toArray [(Value.str (Str.ofString "_law_spoiled") 347), (Value.str (Str.ofString "_law_spoiled") 348), (Value.str (Str.ofString "/claim/cut.py") 349), (Value.int 77 0), (Value.int 2 0), (Value.int 0 0), (Value.int 0 0), (Value.int 3 0), (Value.ref 127), (Value.bool Bool.true), (Value.int 181 0), (Value.ref 128), Value.none, Value.none, Value.none, (Value.ref 129), (Value.int 350 0), (Value.int 77 0), (Value.str (Str.ofString "/claim/cut.py") 351)])) (List.toArray []))),
  (131, fobj (stAt PySem.Challenge.rw_uf060008_01.prog 16) (Str.ofString "_law_spoiled") (Str.ofString "_law_spoiled") Value.none Value.none Value.none (Value.str (Str.ofString "law_uf060008_01") 295) Option.none (Value.ref 130) Value.none),
  (135, (Obj.mk (Value.type "code") Option.none (Data.fields (List.toArray [(Value.str (Str.ofString "_law_made") 353), (Value.str (Str.ofString "_law_made") 354), (Value.str (Str.ofString "/claim/cut.py") 355), (Value.int 92 0), (Value.int 1 0), (Value.int 0 0), (Value.int 0 0), (Value.int 3 0), (Value.ref 132), (Value.bool Bool.true), (Value.int 181 0), (Value.ref 133), Value.none, Value.none, Value.none, (Value.ref 134), (Value.int 356 0), (Value.int 92 0), (Value.str (Str.ofString "/claim/cut.py") 357)])) (List.toArray []))),
  (136, fobj (stAt PySem.Challenge.rw_uf060008_01.prog 17) (Str.ofString "_law_made") (Str.ofString "_law_made") Value.none Value.none Value.none (Value.str (Str.ofString "law_uf060008_01") 295) Option.none (Value.ref 135) Value.none),
  (142, (Obj.mk (Value.type "code") Option.none (Data.fields (List.toArray [(Value.str (Str.ofString "law") 359), (Value.str (Str.ofString "law") 360), (Value.str (Str.ofString "/claim/cut.py") 361), (Value.int 101 0), (Value.int 1 0), (Value.int 0 0), (Value.int 0 0), (Value.int 3 0), (Value.ref 137), (Value.bool Bool.true), (Value.int 181 0), (Value.ref 138), Value.none, (Value.ref 139), (Value.ref 140), (Value.ref 141), (Value.int 365 0), (Value.int 101 0), (Value.str (Str.ofString "/claim/cut.py") 366)])) (List.toArray []))),
  (143, fobj (stAt PySem.Challenge.rw_uf060008_01.prog 18) (Str.ofString "law") (Str.ofString "law") Value.none Value.none Value.none (Value.str (Str.ofString "law_uf060008_01") 295) Option.none (Value.ref 142) Value.none)]
def loose01 : List Str := [Str.ofString "BellError", Str.ofString "BadWaits", Str.ofString "NoHand", Str.ofString "NoLetter", Str.ofString "MOST_HANDS", Str.ofString "is_place", Str.ofString "is_wait", Str.ofString "need", Str.ofString "_law_cell_at", Str.ofString "_law_mixed", Str.ofString "_law_wait_by", Str.ofString "_law_odd", Str.ofString "_law_said", Str.ofString "_law_spoiled", Str.ofString "_law_made"]

def q01 : Program := view PySem.Challenge.rw_uf060008_01.prog [18]
theorem said01 : PySem.Challenge.rw_uf060008_01.wellSaid = true := by kernel_rfl
theorem keys01 (P : Params) : [2, 3, 6, 23, 24, 25, 40, 41, 43, 44, 55, 56, 67, 68, 76, 77, 83, 84, 90, 91, 97, 98, 104, 105, 111, 112, 118, 119, 125, 126, 130, 131, 135, 136, 142, 143] = (K01 P).map (·.1) := by kernel_rfl
noncomputable def hook01 : Hook := kHook K01 [2, 3, 6, 23, 24, 25, 40, 41, 43, 44, 55, 56, 67, 68, 76, 77, 83, 84, 90, 91, 97, 98, 104, 105, 111, 112, 118, 119, 125, 126, 130, 131, 135, 136, 142, 143] keys01
theorem left01 : LeftO PySem.Challenge.rw_uf060008_01.row.prog q01 loose01 (fun s => recOk (RowW.records PySem.Challenge.rw_uf060008_01.row.toRowW) s) (Hook.obs hook01) (Hook.val hook01) 6000 := fun w => by kernel_rfl
theorem ok01 : (chainsOk q01 && opensWell PySem.Challenge.rw_uf060008_01.row.prog && (frees PySem.Challenge.rw_uf060008_01.row.toRowW && PySem.Challenge.rw_uf060008_01.row.within.isEmpty)) = true := by kernel_rfl
end Mine

set_option Elab.async false
set_option maxRecDepth 100000
set_option linter.unusedVariables false
namespace Mine
open PySem PySem.W PyProof.Rows
variable {C : Cx} {k : Nat} {K : Frag} {env : Env} {ρ : Rho} {H : Hp} {Q R : V → Hp → Prop}

/-- an attribute of a class, called -/
def MethC (C : Cx) (H : Hp) (v : V) (name : Str) (f : Value) : Prop :=
  ∀ (A : Around) (s : Shared) (x : Value) (pl : Sem Bool) (Q : Value × List Value → Shared → Prop) (E : Value → Shared → Prop), Sim C H s → VRel s.heap H v x → (∀ t, Q (f, []) { s with toks := t }) → wpAny C.M A (getMethod x name pl) Q E s
theorem MethC.cls (P : PCx C K) {c : Addr} {name : Str} {f : Value} (hr : readsIn K c (.type "type") = true) (hg : specialIn K (.ref c) "__getattribute__" = some (some (.builtin "type.__getattribute__"))) (e : findCls K (.ref c) (.type "type") name = some (.val f)) (hh : handedIn f = true) : MethC C H (.con (.ref c)) name f := fun A s x pl Q E S r h => by
  cases r
  exact method_cls (P.at S) hg (cls_value (P.at S) hr e hh (h _))
theorem EvalW.methodC {o name apos args pos pl} (h : EvalW C k env o (fun v H₁ => ∃ f, MethC C H₁ v name f ∧ Plainly C f ∧ ArgsW C k env args (fun vs H₂ => CallW C k f vs Q R H₂) R ρ H₁) R ρ H)
    (he : eval (.Call (.Attribute o name apos) args [] pos) env = (do
      let ov ← eval o env
      standAt apos.atName
      let (f, first) ← holding [ov] (getMethod ov name pl)
      callWith pos f first (backTo pos (starEach args env)) []) := by rfl)
    (hp : (starEach args env).any (·.1) = false := by rfl) : EvalW C k env (.Call (.Attribute o name apos) args [] pos) Q R ρ H := fun A a s S => by
  refine MethodCall_ (pl := pl) (wp_go (h A a s S) fun x v H₁ s₁ h₁ S₁ r₁ E₁ => ?_) he
  obtain ⟨f, hm, hpl, h₁⟩ := h₁
  refine hm A s₁ x _ _ _ S₁ r₁ fun t => ?_
  have S₁' := S₁.toks t
  refine hpl A _ _ _ [] pos _ (backTo_plain hp) (wp_go (h₁ A a { s₁ with toks := t } (S.ext S₁' E₁) pos) (fun xs vs H₂ s₂ h₂ S₂ r₂ E₂ => ⟨S₂.keep, ?_⟩) fun _ _ p => p.after E₁)
  exact wp_fin (E₁.trans E₂) (h₂ A a s₂ xs S₂ r₂)
end Mine

set_option Elab.async false
set_option maxRecDepth 100000
set_option linter.unusedVariables false
namespace Mine
open PySem PySem.W PyProof.Rows
variable {C : Cx} {k : Nat} {K : Frag}
noncomputable abbrev K1x (C : Cx) : Frag := K01 C.w.params
theorem ns_of {h : Heap} {N : Addr} {c : Value} {d : Option Addr} {es : Array DictEntry} {ep : Nat} {sl : Array (Option Value)} (X : K.In h) (e : K.lookup N = some ⟨c, d, .dict es ep, sl⟩) (hk : (es.toList.all fun e => match e.key with | .str .. => true | _ => false) = true) : h.Ns N (nsFind es) := by
  refine ⟨_, es, ep, X _ _ e, rfl, fun x hx => ?_, fun _ => rfl⟩
  have := List.all_eq_true.mp hk x (by simpa using hx)
  split at this
  · rename_i n t q; exact ⟨n, t, q⟩
  · cases this
theorem mk44 (P : PCx C (K1x C)) : ExcMk C 44 41 := by
  refine ⟨_, _, 43, _, _, _, _, _, _, _, _, _, _, _, _, _, _, _, P.X _ _ rfl, ?_, ns_of P.X rfl (by kernel_rfl), by kernel_rfl, P.X _ _ rfl, rfl⟩
  exact .own (P.X _ _ rfl) (ns_of P.X rfl (by kernel_rfl)) (by kernel_rfl) .base
end Mine

set_option Elab.async false
set_option linter.unusedVariables false
namespace Mine

/- what stays in a hand -/
/- sizes -/
/- the letters that leave -/
end Mine

set_option Elab.async false
set_option linter.unusedVariables false
namespace Mine
open PySem PySem.W PyProof.Rows

variable {C : Cx} {k : Nat} {K : Frag} {env : Env} {ρ : Rho} {H H' : Hp} {Q R : V → Hp → Prop} {QH : Hp → Prop} {c : Addr} {A : HA} {m m' : HandM}

/- in the same form for each attribute that is stored -/
end Mine

set_option linter.unusedVariables false
namespace Mine

/- rounds, exactly -/
end Mine

set_option linter.unusedVariables false
namespace Mine
end Mine

set_option Elab.async false
set_option linter.unusedVariables false
namespace Mine
open PySem PySem.W PyProof.Rows

variable {C : Cx} {k : Nat} {env : Env} {ρ : Rho} {H : Hp} {Q R : V → Hp → Prop}
end Mine

set_option linter.unusedVariables false
namespace Mine
open PySem PySem.W PyProof.Rows
variable {C : Cx} {k : Nat} {env : Env} {ρ : Rho} {H : Hp} {Q R : V → Hp → Prop}

/-- list(xs) that nobody will change -/
theorem CallW.listCopyF {v : V} {l : List V} (hl : lview H v = some l) (hn : l.length ≤ 100000) (h : Q (.lst l) H) : CallW C k (.type "list") [v] Q R H := fun A a s xs S r => by
  refine wpAny_mono (CallW.listCopy (C := C) (k := k) (Q := fun v H' => ∃ a, v = .ref a ∧ H a = Option.none ∧ H' = H.set a (.list l)) (R := R) hl hn (fun a ha => ⟨a, rfl, ha, rfl⟩) A a s xs S r) ?_ fun _ _ p => p
  rintro x s' ⟨v', H', ⟨b, rfl, hb, rfl⟩, S', r', E'⟩
  obtain ⟨S3, r3⟩ := (fz_new (acc := l) hb).2 C s' x S' r'
  exact ⟨.lst l, H, h, S3, r3, ⟨E'.keep, fun c o e n => n, E'.live⟩⟩

/- lists of rounds -/
/- a whole turn of all hands -/
def backL (s : Nat) (c : Int) : List Nat := (List.range s).map fun (k : Nat) => (((s : Int) + c - (k : Int)) % (s : Int)).toNat
theorem backL_ok (b : Bool) (s : Nat) (c : Int) (hs : 0 < s) (hs' : s ≤ 100) : WOk s (some (b, backL s c)) := by
  refine ⟨?_, ?_, ?_, by simp [backL]; exact hs'⟩
  · intro h
    have := congrArg List.length h
    simp [backL] at this; omega
  · unfold backL
    rw [List.nodup_iff_pairwise_ne, List.pairwise_map]
    refine List.Pairwise.imp_of_mem ?_ (List.pairwise_lt_range (n := s))
    intro i j hi hj hij e
    have hi : i < s := by simpa using hi
    have hj : j < s := by simpa using hj
    have a1 := Int.emod_nonneg ((s : Int) + c - (i : Int)) (b := (s : Int)) (by omega)
    have a2 := Int.emod_nonneg ((s : Int) + c - (j : Int)) (b := (s : Int)) (by omega)
    have e : ((s : Int) + c - (i : Int)) % (s : Int) = ((s : Int) + c - (j : Int)) % (s : Int) := by omega
    have := Int.emod_emod_of_dvd
    have hd : ((s : Int) + c - (i : Int) - ((s : Int) + c - (j : Int))) % (s : Int) = 0 := Int.emod_eq_emod_iff_emod_sub_eq_zero.mp e
    have hd2 : ((j : Int) - (i : Int)) % (s : Int) = 0 := by
      rw [← hd]; congr 1; omega
    rw [Int.emod_eq_of_lt (by omega) (by omega)] at hd2
    omega
  · intro x hx
    simp only [backL, List.mem_map] at hx
    obtain ⟨k, _, rfl⟩ := hx
    exact emod_toNat_lt _ s hs
end Mine

set_option Elab.async false
set_option linter.unusedVariables false
namespace Mine
open PySem PySem.W PyProof.Rows
variable {C : Cx} {k : Nat} {K : Frag} {env : Env} {ρ : Rho} {H H' : Hp} {Q R : V → Hp → Prop} {QH : Hp → Prop} {c : Addr} {A : HA} {m m' : HandM}

/- a hand that is being made -/
end Mine

set_option Elab.async false
set_option maxRecDepth 100000
set_option linter.unusedVariables false
namespace Mine
open PySem PySem.W PyProof.Rows
variable {C : Cx} {K : Frag} {l : List Env}
/-- a def whose body may raise -/
theorem FnOK.ofSX {k : Nat} {a : Addr} {s : Option Stmt} {name qual : Str} {params : Arguments} {body : List Stmt} {scope : Scope} {dV kV doc pm cdv ct : Value} {an : Option Addr} {S : SpecT} (names : List Str)
    (P : PCx C K) (hC : C.frs = some l) (ho : K.lookup a = some (fobj s name qual dV kV doc pm an cdv ct)) (hs : fnTri s = (params, body, scope)) (hcd : codeIn K cdv qual = true)
    (hbind : ∀ vals : List Value, vals.length = names.length → bindArgs (fnOf name qual params body scope dV kV doc pm an cdv ct) ⟨vals, []⟩ = pure (names.zip vals))
    (hk : (names.all fun n => scope.names.lookup n == some .local || scope.names.lookup n == some .cell) = true) (hfl : (!scope.isCoroutine && !scope.isGenerator && scope.kind == .function) = true)
    (h : ∀ args Q R H, S args Q R H → args.length = names.length ∧ ∀ L, PCx (C.push (envOfC qual scope L a cdv)) K → (C.push (envOfC qual scope L a cdv)).frs = some (envOfC qual scope L a cdv :: l) → (envOfC qual scope L a cdv).frame = some L →
      ExecsW (C.push (envOfC qual scope L a cdv)) k (envOfC qual scope L a cdv) body (RetQ Q) (fun v _ H' => XR L R v H') (bindRho (fun _ => none) names args) H) :
    FnOK C (k + 1) (.ref a) S := by
  unfold fobj at ho
  rw [hs] at ho
  simp only [Bool.and_eq_true, Bool.not_eq_true', beq_iff_eq] at hfl
  have D : FnDef C a (fnOf name qual params body scope dV kV doc pm an cdv ct) names body :=
    ⟨⟨_, P.X _ _ ho, rfl⟩, P.lim, codeRec_of P.X hcd, rfl, rfl, rfl, rfl, hfl.1.1, hfl.1.2, hfl.2, hbind, fun n hn => by
      have := List.all_eq_true.mp hk n hn
      simpa using this⟩
  exact FnOK.of_defX D hC fun args Q R H hs => ⟨(h args Q R H hs).1, fun L => (h args Q R H hs).2 L (P.push _) (by show C.frs.map _ = _; rw [hC]; rfl) rfl⟩

section
variable {k : Nat} {env : Env} {ρ : Rho} {H : Hp} {Q : Fl → Rho → Hp → Prop} {R : V → Rho → Hp → Prop} {L : Addr}
theorem for_coreX {target : Expr} {body : List Stmt} {I : Addr} {wr : List Addr} {St : List V → Hp → Heap → Prop} {cond : Hp → Prop} {tup : Bool} (IT : ItrOK C tup I wr St cond) (ht : IsTupleE tup target) (hd : C.hd = true) (hC : C.frs = some (env :: l)) (hf : env.frame = some L) {A : Around} (a : Lv C k A)
    (Inv : List V → Rho → Hp → Prop) (hc : ∀ r ρ H, Inv r ρ H → cond H)
    (step : ∀ v r ρ H, Inv (v :: r) ρ H → AssignW C k env target v (fun ρ' => ExecsW C k env body (fun fl ρ'' H'' => match fl with
      | .next => Inv r ρ'' H'' | .cont => Inv r ρ'' H'' | .brk => Q .next ρ'' H'' | .ret u => Q (.ret u) ρ'' H'') (LoopX L R) ρ' H) ρ H)
    (fin : ∀ ρ H, Inv [] ρ H → Q .next ρ H)
    {h₀ : Heap} {H₀ : Hp} (hn : ∀ b ∈ wr, h₀.get? b = none) {PE : Result → Shared → Prop}
    (hPE : ∀ f s', PostS C env H₀ h₀ Q f s' → PE (.ok f) s') (hPX : ∀ e s', cameBackBy C.M A env (PostX C env H₀ h₀ R) e s' → PE (.error e) s')
    (items : List V) (s : Shared) (S : SimL C env ρ H s) (E : ExtF env H₀ h₀ H s.heap) (st : St items H s.heap) (hI : Inv items ρ H) :
    codeAny C.M A (.forLoop target (.ref I) body [] env) PE s := by
  have hu : A.units + 1 < cLine := by have := a.units; omega
  have hA := a.frames _ hC
  refine codeAny_forLoop_any (fun n s' => ∃ r ρ H', n = r.length + 1 ∧ Inv r ρ H' ∧ SimL C env ρ H' s' ∧ ExtF env H₀ h₀ H' s'.heap ∧ St r H' s'.heap) ?_ (items.length + 1) ⟨items, ρ, H, rfl, hI, S, E, st⟩
  rintro n s₃ ⟨r, ρ₃, H₃, rfl, hI, S₃, E₃, st⟩
  have T := IT.tmp _ _ _ st
  cases r with
  | nil =>
    refine IT.done A s₃ H₃ _ _ (a.handled hd) hu S₃.sim (hc _ _ _ hI) st fun s' M => ?_
    exact wpAny_execs_nil (hPE _ _ ⟨.next, ρ₃, H₃, fin ρ₃ H₃ hI, trivial, S₃.moved T M, E₃.moved M hn⟩)
  | cons v r =>
    refine IT.next A hu s₃ v r H₃ _ _ S₃.sim (hc _ _ _ hI) st fun x s' hlet => ?_
    refine hlet target ht _ fun s'' rx'' st'' M'' => ?_
    have S'' := S₃.moved T M''
    have E'' := E₃.moved M'' hn
    refine step v r ρ₃ H₃ hI A a s'' x S'' rx'' _ _ fun ρ' s₅ hb S₅ E₅ => ?_
    refine wpAny_mono (hb A a s₅ S₅) ?_ ?_
    · rintro f s₄ ⟨fl, ρ₄, H₄, q, rf, S₄, E₄⟩
      have E' := E''.trans (E₅.trans E₄)
      have st₄ : ∀ (hI' : Inv r ρ₄ H₄), St r H₄ s₄.heap := fun hI' => IT.frame _ _ _ _ _ st'' ((E₅.trans E₄).w S'') (hc _ _ _ hI')
      cases fl <;> cases f <;> first | exact rf.elim | skip
      · exact ⟨r.length + 1, by simp, r, ρ₄, H₄, rfl, q, S₄, E', st₄ q⟩
      · exact hPE _ _ ⟨.next, ρ₄, H₄, q, trivial, S₄, E'⟩
      · exact ⟨r.length + 1, by simp, r, ρ₄, H₄, rfl, q, S₄, E', st₄ q⟩
      · exact hPE _ _ ⟨.ret _, ρ₄, H₄, q, rf, S₄, E'⟩
    · rintro e s₄ ⟨v', ρ₄, H₄, ⟨x, c, d, rfl, hx, hR⟩, rv, S₄, E₄⟩
      cases rv
      have E' := E''.trans (E₅.trans E₄)
      refine note_W hA hC hf S₄.sim hx (fun T z => by cases z) fun s₆ T' nT S₆ E₆ => ?_
      have hne : T' ≠ x := fun z => by rw [z, hx] at nT; cases nT
      have h1 : ((H₄.set T' (.tb (some L))).set x (.exc c d (some T'))) x = some (.exc c d (some T')) := by simp [Hp.set]
      have h2 : ((H₄.set T' (.tb (some L))).set x (.exc c d (some T'))) T' = some (.tb (some L)) := by simp [Hp.set, hne]
      have hR' := hR T' nT hne
      have SL₆ := S₄.ext S₆ E₆
      exact hPX _ _ (back_W hf S₆ h1 h2 fun s₇ S₇ E₇ => ⟨.ref x, ρ₄, _, hR', .ref _, SL₆.ext S₇ E₇, E'.trans (E₆.trans E₇).toF⟩)
variable {QS : Fl → Rho → Hp → Prop} {RS : V → Rho → Hp → Prop}
theorem ExecW.for_inX {target iter body pos} (tup : Bool) (hd : C.hd = true) (ht : IsTupleE tup target) (hC : C.frs = some (env :: l)) (hf : env.frame = some L)
    (h : IterE C k env tup iter (fun items cond H₁ => ∃ Inv : List V → List (Str × V) → Hp → Prop, (∃ l, Inv items l H₁ ∧ Rho.sat l ρ) ∧ (∀ r l H, Inv r l H → cond H) ∧
      (∀ v r l H, Inv (v :: r) l H → AssignW C k env target v (fun ρ' => ExecsW C k env body (LoopQ (Inv r) QS) (LoopX L RS) ρ' H) (Rho.of l) H) ∧
      (∀ l H, Inv [] l H → QS .next (Rho.of l) H)) (fun v H' => RS v ρ H') ρ H)
    (hs : ∀ x, foldedSetIterable iter env x = pure x := by intro _; rfl) : ExecW C k env (.For target iter body [] pos) QS RS ρ H := fun A a s S => by
  refine wpAny_For ?_ hs
  refine h A a s S _ _ (fun _ _ p => p.toX S) ?_
  rintro I wr St items cond H₂ s₂ ⟨Inv, ⟨l', hi, hl⟩, hc, step, fin⟩ IT hcd st hn S₂ E₂
  refine for_coreX IT ht hd hC hf a (ρ := Rho.of l') (fun r ρ H => ∃ l, ρ = Rho.of l ∧ Inv r l H) (fun r ρ H ⟨l, _, h⟩ => hc r l H h) ?_ ?_ hn (fun f s' p => p) (fun e s' p => p) items s₂ ((S.ext S₂ E₂).weaken hl.le) E₂.toF st ⟨l', rfl, hi⟩
  · rintro v r ρ H ⟨l, rfl, hi⟩
    refine (step v r l H hi).conseq fun ρ' hb => hb.conseq fun fl ρ₁ H₁ q => ?_
    cases fl with
    | next => obtain ⟨l', i', s'⟩ := q; exact ⟨_, s'.le, l', rfl, i'⟩
    | cont => obtain ⟨l', i', s'⟩ := q; exact ⟨_, s'.le, l', rfl, i'⟩
    | brk => exact ⟨_, Rho.le_refl _, q⟩
    | ret u => exact ⟨_, Rho.le_refl _, q⟩
  · rintro ρ H ⟨l, rfl, hi⟩; exact fin l H hi
end
end Mine

set_option Elab.async false
set_option maxRecDepth 100000
set_option linter.unusedVariables false
namespace Mine
open PySem PySem.W PyProof.Rows Builtin Builtin.ObjectAttr
variable {C : Cx} {k : Nat} {K : Frag} {env : Env} {ρ : Rho} {H : Hp} {Q R : V → Hp → Prop}

section
variable {prog : Program} {w : World} {A : Around} {E : Value → Shared → Prop} {s : Shared} {e c : Addr} {ox od : Obj}
/-- __class__ of an exception of one's own -/
theorem exc_class {Q : Option Value → Shared → Prop} (hc : ExcOk K c) (ha : findIn K (.ref c) "__class__" = some (some (.builtin "object.__class__")))
    (hn : specialIn K (.builtin "object.__class__") "__get__" = some (some (.builtin "getset_descriptor.__get__"))) (htk : takesIn K (.builtin "object.__class__") = some true) (hm : mroIn K c (.type "object") = some true)
    (X : K.In s.heap) (I : InstAt s.heap e ox c (some od)) (h : Q (some (.ref c)) { s with toks := s.toks + 1 }) : wpAny (model prog w) A (getAttr? (.ref e) "__class__") Q E s := by
  obtain ⟨cd, hcd, hh⟩ := any_some hc.mro
  simp only [Bool.and_eq_true] at hh
  have hf : findObj K c (some od) "__class__" = some (.bind (.builtin "getset_descriptor.__get__") (.builtin "object.__class__")) := findObj_data (by rw [hcd]; rfl) ha hn htk
  obtain ⟨rs, hm0⟩ := excMro_tail hh.2
  have ne : cd.mro.isEmpty = false := by rw [hm0]; cases rs <;> rfl
  have has : cd.mro.contains (.type "BaseException") = true := by rw [hm0]; simp
  obtain ⟨hp, g, dr, tk, os⟩ := s
  dsimp only at X I h
  have L0 := I.type (M := model prog w)
  have L1 := looks_findIn (M := model prog w) X hc.get
  have Lh : Looks (model prog w) hp (hookBefore (.ref c)) none := looks_hook X (by rw [if_pos (by rfl)]; exact hc.hook)
  have sub : Looks (model prog w) hp (isInstance (.ref e) (.type "BaseException")) true := L0.andThen (looks_mroIn X (by unfold mroIn; rw [hcd, Option.bind_some, if_neg (by rw [ne]; decide), has]))
  have FA := PySem.F.excAttr_ValueError
  unfold getAttr? getAttrBy? getAttrBy
  refine wpAny_bind (wpAny_mkText (wpAny_bind (wpAny_attempt (wpAny_holding (wpAny_bind (L0.at (wpAny_bind (L1.at ?_))))))))
  dsimp only
  rw [if_neg (by rw [show (Value.builtin "BaseException.__getattribute__" == Value.builtin "object.__getattribute__") = false from by decide +kernel, Bool.and_false]; decide)]
  refine wpAny_bind (Lh.at (wpAny_bind (wpAny_attempt (wpAny_holding ?_))))
  unfold callGetattribute
  rw [if_neg (by decide +kernel)]
  unfold boundAndCalled
  rw [FA.ga.bind]
  refine wpAny_bind (wpAny_pure ?_)
  refine wpAny_call ?_
  refine codeAny_call_builtin FA.ga.plain PySem.F.entry_bexc_ga ?_
  refine @check_slot (model prog w) _ _ ⟨hp, g, dr, tk + 1, os⟩ "BaseException.__getattribute__" "BaseException" "__getattribute__" (.ref e) [.str "__class__" tk] [] _ (by decide +kernel) (by decide +kernel) sub (PySem.F.args_bexc_ga (.ref e) (.str "__class__" tk)) ?_
  unfold Builtin.«object.__getattribute__»
  refine wpAny_bind (wpAny_pure (wpAny_bind (wpAny_pure (wpAny_bind (L0.at (wpAny_bind ((looks_find (M := model prog w) X I hf).at ?_)))))))
  show wpAny _ _ (holding [.builtin "object.__class__"] (call (.builtin "getset_descriptor.__get__") [.builtin "object.__class__", .ref e, .ref c]) >>= ret) _ _ _
  refine wpAny_bind (wpAny_holding (wpAny_call (class_get (s := ⟨hp, g, dr, tk + 1, os⟩) (ox := ox) (od := some od) X I hm ?_)))
  refine wpAny_pure ?_
  show wpAny (model prog w) A (handedOut (.ref c)) _ _ _
  exact handed_on rfl (wpAny_pure h)
/-- an exception of one's own, asked by isinstance -/
theorem kitx_exc (hc : ExcOk K c) (ha : findIn K (.ref c) "__class__" = some (some (.builtin "object.__class__")))
    (hn : specialIn K (.builtin "object.__class__") "__get__" = some (some (.builtin "getset_descriptor.__get__"))) (htk : takesIn K (.builtin "object.__class__") = some true) (hm : mroIn K c (.type "object") = some true) :
    KitX K (.ref e) (.ref c) (fun h => InstAt h e ox c (some od)) where
  ty := fun _ _ _ I => I.type
  it := fun _ _ X _ => by
    obtain ⟨cdD, hcD, _⟩ := any_some hc.mro
    unfold clsIn at hcD
    split at hcD
    · rename_i c' d' cd' sl' ho
      intro A' Q' E' s' k q
      unfold isType loadHead
      exact wpAny_bind (wpAny_loadPart (k _ _ (X _ _ ho)) (wpAny_pure q))
    · cases hcD
  ne := fun h tp dd its n sl X htp => by
    obtain ⟨cdD, hcD, _⟩ := any_some hc.mro
    refine Bool.eq_false_iff.mpr fun q => ?_
    have e : c = tp := Value.ref.inj (beq_iff_eq.mp q)
    subst e
    unfold clsIn at hcD
    split at hcD
    · rename_i c' d' cd' sl' ho
      have z := (X _ _ ho).symm.trans htp
      cases z
    · cases hcD
  ca := fun X I k => exc_class hc ha hn htk hm X I k
end
theorem CallW.isi_exc (P : K.In C.base) {e c d : Addr} {T : Option Addr} {m : Str → Option V} {n : Nat} {cl : Value} {b : Bool} (hc : ExcOk K c) (ha : findIn K (.ref c) "__class__" = some (some (.builtin "object.__class__")))
    (hn : specialIn K (.builtin "object.__class__") "__get__" = some (some (.builtin "getset_descriptor.__get__"))) (htk : takesIn K (.builtin "object.__class__") = some true) (hm : mroIn K c (.type "object") = some true)
    (he : H e = some (.exc c (some d) T)) (hd : H d = some (.ns m n)) (hk : kitOne K (.ref c) cl = some b) (h : Q (.bool b) H) : CallW C k (.builtin "isinstance") [.ref e, .con cl] Q R H := fun A lv s xs S r => by
  cases r with
  | cons r r' =>
    cases r' with
    | cons r1 r' =>
      cases r'; cases r; cases r1
      obtain ⟨oe, vs, e1, e2, e3, e4, e5, e6⟩ := S.objs _ _ he
      obtain ⟨od, es, ep, eD, hdat, _⟩ := S.objs _ _ hd
      obtain ⟨c0, d0, dt, sl⟩ := oe
      dsimp only at e2 e3 e4
      subst e2 e3 e4
      have I : InstAt s.heap e ⟨.ref c, some d, .fields vs, sl⟩ c (some od) := ⟨e1, rfl, rfl, eD⟩
      exact kia_one (kitx_exc hc ha hn htk hm) (fun a o e => S.keep a o (P a o e)) I hk (by intro q; cases q) fun tk => Post.here h (S.toks _) (.bool _) rfl
end Mine

set_option Elab.async false
set_option maxRecDepth 100000
set_option linter.unusedVariables false
namespace Mine
open PySem PySem.W PyProof.Rows
variable {C : Cx} {k : Nat} {K : Frag} {env : Env} {ρ : Rho} {H : Hp} {QS : Fl → Rho → Hp → Prop} {RS : V → Rho → Hp → Prop}
/-- it gives back, and nothing else -/
def OnlyRet (PQ : V → Hp → Prop) : Fl → Rho → Hp → Prop := fun fl _ H => ∃ u, fl = .ret u ∧ PQ u H
theorem OnlyRet.here {PQ : V → Hp → Prop} {u : V} (h : PQ u H) : OnlyRet PQ (.ret u) ρ H := ⟨u, rfl, h⟩
/-- try with one clause, where body and clause give back -/
theorem ExecW.try_ret {PQ : V → Hp → Prop} {body : List Stmt} {t : Expr} {n : Str} {b₀ : Stmt} {suite : List Stmt} {hpos pos : Pos} {L cX : Addr} {l : List Env} (P : PCx C K) (hC : C.frs = some (env :: l)) (hf : env.frame = some L) (hn : env.kindOf n = some .local)
    (ht : ∀ ρ H, EvalW C.low0 k env t (fun v H' => v = .con (.ref cX) ∧ H' = H) (fun _ _ => False) ρ H) (hQ : ∀ u ρ H, PQ u H → QS (.ret u) ρ H)
    (h : ExecsW C k env body (OnlyRet PQ) (Caught (fun e ρ' H' => ∃ c d T, H' e = some (.exc c d T) ∧ exmOne K (.ref c) (.ref cX) = some true ∧ ExecsW C.low0 k env (b₀ :: suite) (OnlyRet PQ) (fun _ _ _ => False) (ρ'.set n (.ref e)) H') L) ρ H) :
    ExecW C k env (.Try body [.ExceptHandler (some t) (some n) (b₀ :: suite) hpos] [] [] pos) QS RS ρ H := fun A a s S => by
  have := ExecW.try_as (RS := RS) (QS := OnlyRet PQ) (pos := pos) (hpos := hpos) P hC hf hn ht (fun fl ρ H q _ => let ⟨u, e, z⟩ := q; ⟨u, e, z⟩) (fun ρ H q => by obtain ⟨u, e, _⟩ := q; cases e) h A a s S
  refine wpAny_mono this (fun f s' p => ?_) fun _ _ p => p
  obtain ⟨fl, ρ', H', ⟨u, rfl, q⟩, r⟩ := p
  exact ⟨_, ρ', H', hQ _ _ _ q, r⟩
end Mine

set_option Elab.async false
set_option maxRecDepth 100000
set_option linter.unusedVariables false
namespace Mine
open PySem PySem.W PyProof.Rows
variable {C : Cx} {k : Nat} {env : Env} {ρ : Rho} {H : Hp} {Q R : V → Hp → Prop}

theorem MethIs.insert {a : Addr} {l : List V} (ha : H a = some (.list l)) : MethIs C H (.ref a) "insert" (.builtin "list.insert") := MethIs.list ha F.slot_list_insert F.type_list_insert
theorem CallW.insert {a : Addr} {l : List V} {i : Nat} {v : V} (ha : H a = some (.list l)) (hi : i ≤ l.length) (hn : l.length ≤ 50000) (h : Q .none (H.set a (.list (l.take i ++ v :: l.drop i)))) : CallW C k (.builtin "list.insert") [.ref a, .int i, v] Q R H := fun A lv s xs S r => by
  cases r with
  | cons r1 r' => cases r' with
    | cons r2 r' => cases r' with
      | cons r3 r' =>
        cases r'; cases r1
        cases r2 with
        | int _ u =>
        rename_i y
        obtain ⟨xs, ⟨n, ho⟩, rl⟩ := S.objs _ _ ha
        have hz : xs.size = l.length := by have := rl.length; simpa using this
        have hs := sizeLine_eq
        obtain ⟨li, rfl⟩ : ∃ li : List Value, xs = li.toArray := ⟨xs.toList, by rw [Array.toArray_toList]⟩
        have hzl : li.length = l.length := by simpa using hz
        obtain ⟨S', E'⟩ := listUpd (l' := l.take i ++ v :: l.drop i) (f := fun xs => have k := if (i : Int) < 0 then ((i : Int) + (xs.size : Int)).toNat else min (i : Int).toNat xs.size; (xs.extract 0 k).push y ++ xs.extract k) S ha ho fun h' H' E => by
          have e0 : (if (i : Int) < 0 then ((i : Int) + (li.toArray.size : Int)).toNat else min (i : Int).toNat li.toArray.size) = i := by
            rw [if_neg (by omega)]; simp; omega
          show VRelL h' H' _ ((li.toArray.extract 0 (if (i : Int) < 0 then ((i : Int) + (li.toArray.size : Int)).toNat else min (i : Int).toNat li.toArray.size)).push y ++ li.toArray.extract (if (i : Int) < 0 then ((i : Int) + (li.toArray.size : Int)).toNat else min (i : Int).toNat li.toArray.size)).toList
          rw [e0, kl_ins_eq]
          exact ((rl.extV E).take i).append (.cons (r3.extV E) ((rl.extV E).drop i))
        have hf : ¬(!Builtin.List.listFitsIndex (i : Int)) = true := by
          have : Builtin.List.listFitsIndex (i : Int) = true := by
            unfold Builtin.List.listFitsIndex; simp; omega
          simp [this]
        have hzz : li.toArray.size ≤ sizeLine := by rw [List.size_toArray]; omega
        generalize hii : (i : Int) = ii at hf S' E'
        have Mt := PySem.AutoSeq1.list_insert_list_int_val_1 a li.toArray n ii u y hf hzz
        exact call_meets F.slot_list_insert ⟨_, ho, rfl⟩ F.entry_list_insert (F.args_list_insert_3 _ _ _) Mt ⟨ho, ⟨.none, _, h, S', .none, E'⟩⟩
theorem CallW.tupleOf {v : V} {l : List V} (hl : lview H v = some l) (hn : l.length ≤ 100000) (h : Q (.tup l) H) : CallW C k (.type "tuple") [v] Q R H := fun A a s xs S r => by
  cases r with
  | cons r r' =>
    cases r'
    obtain ⟨ad, ys, rfl, hL, rl⟩ := lview_list hl S r
    have hz : ys.size = l.length := by have := rl.length; simpa using this
    refine call_tuple_list (hsz := by rw [hz]; exact Nat.le_trans hn (by decide)) hL fun h' hk => ?_
    have hk2 : ∀ b o, s.heap.get? b = some o → (h'.push { cls := .type "tuple", data := .seq ys }).get? b = some o := fun b o e => Heap.get?_push_of_some _ (hk b o e)
    have S1 : Sim C H { s with heap := h' } := S.grown hk rfl rfl
    exact ⟨.tup l, H, h, S.grown (s' := { s with heap := h'.push _ }) hk2 rfl rfl, .tup ⟨_, Heap.get?_push_size _ rfl, rfl, _, rfl⟩ (S1.fresh (Nat.le_refl _)) (rl.ext (Ext.grown hk2)), Ext.grown hk2⟩
theorem BinW.pow {a b : Int} (hb : 0 < b) (ha : 1 < a) (hz : Builtin.Int.intTooBig (((Builtin.Int.intBits a : Nat) : Int) * b) = false) (h : Q (.int (a ^ b.toNat)) H) : BinW C k .Pow (.int a) (.int b) Q R H := fun A lv s x y S r1 r2 => by
  cases r1; cases r2
  refine AutoIntOps.pow_4 (by omega) (by simp; omega) (by simp; omega) (by simp; omega) (by rw [hz]; decide) ?_
  exact Post.here h (S.toks _) (.int _ _) rfl
end Mine

set_option Elab.async false
set_option linter.unusedVariables false
namespace Mine
open PySem PySem.W PyProof.Rows

theorem ints_rel {h : Heap} {H : Hp} {vals : List Value} {ns : List Int} (hI : IntsAre vals ns) : VRelL h H (ns.map .int) vals := by
  induction hI with
  | nil => exact .nil
  | cons n t _ ih => exact .cons (.int n t) ih

theorem law_glue {prog : Program} {w : World} {s₁ : Shared} {a : Addr} {vals : List Value} {ns : List Int} {f : Value} {S : SpecT} {k : Nat} {c : ClaimW} {cl : Str → Option Addr} {mean : ExcName → Option Value} {args : List WData}
    (low : ∃ o, s₁.heap.get? cStatics = some o) (hg : s₁.gens = #[]) (hL : s₁.heap.IsList a vals.toArray) (hI : IntsAre vals ns)
    (hf : FnOK ⟨prog, w, s₁.heap, s₁.os, true, low, some []⟩ k f S) (hk : k ≤ 20)
    (hS : S [.lst (ns.map .int)] (fun v _ => v = .bool true) (fun _ _ => False) (fun _ => Option.none))
    (hr : ∀ cls, c.raises args cls = false) (hp : c.post args (.bool true) args = true) :
    codeAny (model prog w) callerA (.call f ⟨[.ref a], []⟩) (GoodWG c cl mean args s₁) s₁ := by
  have lv : Lv ⟨prog, w, s₁.heap, s₁.os, true, low, some []⟩ k callerA := by
    refine ⟨fun _ => rfl, ?_, ?_, fun l e => by cases e; rfl⟩
    · have : callerA.depth + 2 * 20 + 100 < recursionLimit := by decide +kernel
      omega
    · have : callerA.units + 40 * 20 + 100 < cLine := by decide +kernel
      omega
  have sim : Sim ⟨prog, w, s₁.heap, s₁.os, true, low, some []⟩ (fun _ => Option.none) s₁ := ⟨fun _ _ e => e, hg, rfl, fun _ _ e => (nomatch e), fun _ e => absurd rfl e, fun l e env m => by cases e; cases m⟩
  refine codeAny_mono (hf callerA lv s₁ (fun _ => Option.none) [.lst (ns.map .int)] [.ref a] _ _ sim (.cons (.lst hL rfl (by simpa using ints_rel hI)) .nil) hS) ?_
  intro r s' p
  rcases r with e | (_ | _ | _ | v)
  · obtain ⟨_, _, q, _⟩ := p; exact q.elim
  · exact p.elim
  · exact p.elim
  · exact p.elim
  · obtain ⟨_, H', rfl, S', rv, E⟩ := p
    cases rv
    exact GoodW.toG ⟨.inl ⟨_, .bool true, [], rfl, hr, .bool true, hp, fun _ => ⟨List.nodup_nil, fun _ h => by cases h⟩⟩, S'.keep, S'.os, S'.gens⟩
end Mine

set_option Elab.async false
set_option maxRecDepth 100000
set_option linter.unusedVariables false
namespace Mine
open PySem PySem.W PyProof.Rows

local macro_rules
  | `(tactic| walk_at "v") => `(tactic| with_reducible first
    | (refine gE ?_; first
      | (refine gName ?_; first
        | refine EvalW.local_ (by with_unfolding_all rfl) ?_ (by with_unfolding_all rfl)
        | refine EvalW.cell (by with_unfolding_all rfl) ?_ (by with_unfolding_all rfl)
        | refine EvalW.free (by with_unfolding_all rfl) ?_ (by with_unfolding_all rfl)
        | refine EvalW.global (PCx.blt (by assumption) (by kernel_rfl) (by boot_fast)) ?_ (by with_unfolding_all rfl))
      | (refine gConst ?_; first
        | refine EvalW.int ?_
        | refine EvalW.none ?_
        | refine EvalW.bool ?_
        | refine EvalW.str ?_)
      | (refine gCall ?_; first
        | refine EvalW.callName (x := Str.ofString "is_place") (PCx.glob (v := .ref 77) (by assumption) (by kernel_rfl)) (Plainly.ofS (PCx.X (by assumption)) (by with_unfolding_all rfl)) (by with_unfolding_all rfl) ?_ (hp := by with_unfolding_all rfl)
        | refine EvalW.callName (x := Str.ofString "is_wait") (PCx.glob (v := .ref 84) (by assumption) (by kernel_rfl)) (Plainly.ofS (PCx.X (by assumption)) (by with_unfolding_all rfl)) (by with_unfolding_all rfl) ?_ (hp := by with_unfolding_all rfl)
        | refine EvalW.callName (x := Str.ofString "need") (PCx.glob (v := .ref 91) (by assumption) (by kernel_rfl)) (Plainly.ofS (PCx.X (by assumption)) (by with_unfolding_all rfl)) (by with_unfolding_all rfl) ?_ (hp := by with_unfolding_all rfl)
        | refine EvalW.callName (x := Str.ofString "_law_cell_at") (PCx.glob (v := .ref 98) (by assumption) (by kernel_rfl)) (Plainly.ofS (PCx.X (by assumption)) (by with_unfolding_all rfl)) (by with_unfolding_all rfl) ?_ (hp := by with_unfolding_all rfl)
        | refine EvalW.callName (x := Str.ofString "_law_mixed") (PCx.glob (v := .ref 105) (by assumption) (by kernel_rfl)) (Plainly.ofS (PCx.X (by assumption)) (by with_unfolding_all rfl)) (by with_unfolding_all rfl) ?_ (hp := by with_unfolding_all rfl)
        | refine EvalW.callName (x := Str.ofString "_law_wait_by") (PCx.glob (v := .ref 112) (by assumption) (by kernel_rfl)) (Plainly.ofS (PCx.X (by assumption)) (by with_unfolding_all rfl)) (by with_unfolding_all rfl) ?_ (hp := by with_unfolding_all rfl)
        | refine EvalW.callName (x := Str.ofString "_law_odd") (PCx.glob (v := .ref 119) (by assumption) (by kernel_rfl)) (Plainly.ofS (PCx.X (by assumption)) (by with_unfolding_all rfl)) (by with_unfolding_all rfl) ?_ (hp := by with_unfolding_all rfl)
        | refine EvalW.callName (x := Str.ofString "_law_said") (PCx.glob (v := .ref 126) (by assumption) (by kernel_rfl)) (Plainly.ofS (PCx.X (by assumption)) (by with_unfolding_all rfl)) (by with_unfolding_all rfl) ?_ (hp := by with_unfolding_all rfl)
        | refine EvalW.callName (x := Str.ofString "_law_spoiled") (PCx.glob (v := .ref 131) (by assumption) (by kernel_rfl)) (Plainly.ofS (PCx.X (by assumption)) (by with_unfolding_all rfl)) (by with_unfolding_all rfl) ?_ (hp := by with_unfolding_all rfl)
        | refine EvalW.callName (x := Str.ofString "_law_made") (PCx.glob (v := .ref 136) (by assumption) (by kernel_rfl)) (Plainly.ofS (PCx.X (by assumption)) (by with_unfolding_all rfl)) (by with_unfolding_all rfl) ?_ (hp := by with_unfolding_all rfl)
        | refine EvalW.callName (PCx.blt (by assumption) (by kernel_rfl) (by boot_fast)) (by first | exact Plainly.builtin _ | exact Plainly.type _) (by with_unfolding_all rfl) ?_ (hp := by with_unfolding_all rfl)
        | refine EvalW.method ?_ (by with_unfolding_all rfl) (by with_unfolding_all rfl))
      | refine EvalW.sub ?_
      | refine EvalW.attr ?_
      | refine EvalW.listMul ?_ (by with_unfolding_all rfl)
      | refine EvalW.binop ?_
      | refine EvalW.compare ?_
      | refine EvalW.compare2 ?_
      | refine EvalW.not ?_
      | refine EvalW.and ?_
      | refine EvalW.or ?_
      | refine EvalW.and_one ?_
      | refine EvalW.tuple ?_)
    | (refine gA ?_; first
      | refine ArgsW.cons ?_ (by with_unfolding_all rfl)
      | refine ArgsW.nil ?_)
    | (refine gB ?_; first
      | refine BinW.add ?_
      | refine BinW.mul (by first | exact IntMulOk.of_right (by decide) | exact IntMulOk.of_left (by decide)) ?_
      | refine BinW.mod (by first | decide | omega) ?_
      | refine BinW.floordiv (by first | decide | omega) (by first | decide | omega) ?_
      | refine BinW.sub ?_)
    | (refine gC ?_; first
      | refine CmpW.lt ?_
      | refine CmpW.le ?_
      | refine CmpW.gt ?_
      | refine CmpW.ge ?_
      | refine CmpW.eqI ?_
      | refine CmpW.neI ?_
      | refine CmpW.eqS ?_
      | refine CmpW.neS ?_)
    | (refine gAt ?_; refine HandRep.get (by assumption) (by assumption) (by assumption) (by with_unfolding_all decide) (by with_unfolding_all rfl) (by first | with_unfolding_all rfl | exact ov_plain _) ?_)
    | refine TruthW.bool ?_
    | (refine gT ?_; first
      | refine TestW.compare ?_
      | refine TestW.compare2 ?_
      | refine TestW.not ?_
      | refine TestW.and ?_
      | refine TestW.or ?_
      | refine TestW.and_nil ?_
      | refine TestW.or_nil ?_
      | refine TestW.plain ?_ (by intro; with_unfolding_all rfl))
    | (refine gX ?_; first
      | refine ExecsW.cons ?_
      | refine ExecsW.nil ?_)
    | refine Cont.next ?_
    | refine Cont.ret ?_
    | (refine gS ?_; first
      | refine ExecW.if_ ?_
      | refine ExecW.ret ?_
      | refine ExecW.assign (Storable.l (by with_unfolding_all rfl)) ?_ (by with_unfolding_all rfl)
      | refine ExecW.assign (Storable.c (by with_unfolding_all rfl) (by with_unfolding_all rfl)) ?_ (by with_unfolding_all rfl)
      | refine ExecW.assign_sub ?_ (by with_unfolding_all rfl)
      | refine ExecW.assign_attr ?_ (by with_unfolding_all rfl)
      | refine ExecW.expr ?_ (by with_unfolding_all rfl) (by with_unfolding_all rfl)))
  | `(tactic| walk_at "w") => `(tactic| repeat walk_at "v")
variable {C : Cx}
theorem cls44 (P : PCx C (K1x C)) : ExcCls C 44 := by
  obtain ⟨nm, q, N, bs, bm, hdct, sn, sub, ab, col, dd, k0, k1, k2, k3, k5, mN, oI, hC, hT, _⟩ := (mk44 P).all
  exact ⟨nm, q, N, bs, bm, hdct, sn, sub, ab, col, dd, k0, k1, k2, k3, k5, hC, hT⟩
theorem ok44 (C : Cx) : ExcOk (K1x C) 44 := ⟨by kernel_rfl, by kernel_rfl, by kernel_rfl, by kernel_rfl⟩
def S_binit : SpecT := fun args Q R H => ∃ (e : Addr) (v : V), args = [.ref e, v] ∧ H e = some (.exc 44 none none) ∧ ∀ d, H d = none → d ≠ e → Q .none ((H.set d (.ns (Rho.set (Rho.of []) (Str.ofString "at") v) 1)).set e (.exc 44 (some d) none))
set_option maxHeartbeats 4000000 in
theorem binit_ok (P : PCx C (K1x C)) (k : Nat) : FnOK C (k + 1) (.ref 41) S_binit := by
  refine FnOK.ofS (K := K1x C) [Str.ofString "self", Str.ofString "at"] P rfl rfl (by kernel_rfl) ?_ (by kernel_rfl) (by kernel_rfl) ?_
  · intro vals h
    rcases vals with _ | ⟨a, _ | ⟨b, _ | ⟨c, t⟩⟩⟩ <;> simp at h
    rfl
  · rintro args Q R H ⟨e, v, rfl, he, hQ⟩
    refine ⟨rfl, fun L P => ?_⟩
    refine ExecsW.cons ?_
    refine ExecW.expr ?_ (by with_unfolding_all rfl) (by with_unfolding_all rfl)
    refine EvalW.methodC ?_ (by with_unfolding_all rfl) (by with_unfolding_all rfl)
    refine EvalW.global (PCx.glob (v := .ref 24) P (by kernel_rfl)) ?_ (by with_unfolding_all rfl)
    refine ⟨.builtin "ValueError.__init__", MethC.cls P (by kernel_rfl) (by kernel_rfl) (by kernel_rfl) rfl, Plainly.builtin _, ?_⟩
    walk_at "w"
    refine CallW.excInit (cls44 P) he ?_
    walk_at "w"
    refine SetAttrW.exc P (ok44 _) he (by kernel_rfl) fun d hd hne => ?_
    walk_at "w"
    exact ⟨.none, _, Fz.refl, hQ d hd hne⟩
variable {C : Cx}
def isPlaceV : V → Int → Bool
  | .int i, m => decide (0 ≤ i) && decide (i < m)
  | _, _ => false
def S_placeV : SpecT := fun args Q R H => ∃ (v : V) (m : Int) (T : String), args = [v, .int m] ∧ tyOf H v = some T ∧ Q (.bool (isPlaceV v m)) H
set_option maxHeartbeats 4000000 in
theorem placeV_ok (P : PCx C (K1x C)) (k : Nat) : FnOK C (k + 1) (.ref 77) S_placeV := by
  refine FnOK.ofS (K := K1x C) [Str.ofString "thing", Str.ofString "many"] P rfl rfl (by kernel_rfl) ?_ (by kernel_rfl) (by kernel_rfl) ?_
  · intro vals h
    rcases vals with _ | ⟨a, _ | ⟨b, _ | ⟨c, t⟩⟩⟩ <;> simp at h
    rfl
  · rintro args Q R H ⟨v, m, T, rfl, hT, hQ⟩
    refine ⟨rfl, fun L P => ?_⟩
    by_cases hI : isSub T "int" = false
    · have hv : isPlaceV v m = false := by
        cases v with
        | int i => cases hT; exact absurd hI (by decide +kernel)
        | _ => rfl
      rw [hv] at hQ
      walk_at "w"
      refine CallW.isi_int hT ?_
      rw [hI]
      walk_at "w"
      refine ite_f rfl ?_
      walk_at "w"
      exact RetQ.here hQ
    · have hI : isSub T "int" = true := by simpa using hI
      walk_at "w"
      refine CallW.isi_int hT ?_
      rw [hI]
      walk_at "w"
      refine ite_t rfl ?_
      walk_at "w"
      refine CallW.isi_bool hT ?_
      walk_at "w"
      by_cases hB : isSub T "bool" = true
      · have hv : isPlaceV v m = false := by
          cases v with
          | int i => cases hT; exact absurd hB (by decide +kernel)
          | _ => rfl
        rw [hv] at hQ
        rw [hB]
        refine ite_f rfl ?_
        walk_at "w"
        exact RetQ.here hQ
      · have hB : isSub T "bool" = false := by simpa using hB
        rw [hB]
        refine ite_t rfl ?_
        obtain ⟨i, rfl⟩ : ∃ i, v = .int i := by
          cases v with
          | int i => exact ⟨i, rfl⟩
          | none => cases hT; exact absurd hI (by decide +kernel)
          | bool b => cases hT; exact absurd hB (by decide +kernel)
          | str s => cases hT; exact absurd hI (by decide +kernel)
          | tup l => cases hT; exact absurd hI (by decide +kernel)
          | lst l => cases hT; exact absurd hI (by decide +kernel)
          | ref a =>
            simp only [tyOf] at hT
            split at hT <;> first | (cases hT; exact absurd hI (by decide +kernel)) | cases hT
          | con u => cases hT
        have hQ : Q (.bool (decide (0 ≤ i) && decide (i < m))) H := hQ
        walk_at "w"
        refine ite_w (fun h => ?_) fun h => ?_
        · walk_at "w"
          refine RetQ.here ?_
          rw [h] at hQ; exact hQ
        · walk_at "w"
          refine RetQ.here ?_
          rw [h] at hQ ⊢; exact hQ
section
variable {C : Cx} {k : Nat} {env : Env} {ρ : Rho} {H : Hp} {QS : Fl → Rho → Hp → Prop} {RS : V → Rho → Hp → Prop}
theorem ExecW.raise44 (P : PCx C (K1x C)) {np cpos pos : Pos} {arg : Expr} (hk : env.kindOf (Str.ofString "BadWaits") = some .globalImplicit) (hp : (starEach [arg] env).any (·.1) = false) (hst : starEach [arg] env = (false, eval arg env) :: starEach [] env)
    (h : EvalW C (k + 2) env arg (fun v H' => ∀ e d, H' e = none → (H'.set e (.exc 44 none none)) d = none → d ≠ e → RS (.ref e) ρ (((H'.set e (.exc 44 none none)).set d (.ns (Rho.set (Rho.of []) (Str.ofString "at") v) 1)).set e (.exc 44 (some d) none))) (fun v H' => RS v ρ H') ρ H) :
    ExecW C (k + 2) env (.Raise (some (.Call (.Name (Str.ofString "BadWaits") np) [arg] [] cpos)) none pos) QS RS ρ H := by
  refine ExecW.raise_ P.hd (cls44 P) ?_
  refine EvalW.callName (x := Str.ofString "BadWaits") (PCx.glob (v := .ref 44) P (by kernel_rfl)) (Plainly.cls P (by kernel_rfl)) hk ?_ (hp := hp)
  refine ArgsW.cons ?_ hst
  refine EvalW.conseq h (fun v H' hv => ?_) fun _ _ r => r
  refine ArgsW.nil ?_
  refine CallW.mkExc (mk44 P) (binit_ok P k) (by simp) fun e he => ?_
  refine ⟨e, v, rfl, by simp [Hp.set], fun d hd hne => ⟨rfl, e, some d, rfl, by simp [Hp.set], hv e d he hd hne⟩⟩
end
variable {C : Cx}
/-- hands of a list: some are good and met once, then comes one that is none or was met -/
inductive BadH (m : Int) : List V → List Int → Prop
  | odd {v : V} {l : List V} {seen : List Int} (h : isPlaceV v m = false) : BadH m (v :: l) seen
  | twice {i : Int} {l : List V} {seen : List Int} (h : isPlaceV (.int i) m = true) (hs : i ∈ seen) : BadH m (.int i :: l) seen
  | next {i : Int} {l : List V} {seen : List Int} (h : isPlaceV (.int i) m = true) (hs : i ∉ seen) (r : BadH m l (i :: seen)) : BadH m (.int i :: l) seen
/-- things that are no wait -/
inductive BadV (H : Hp) (m : Int) : V → Prop
  | kind {v : V} {T : String} (ht : tyOf H v = some T) (hT : isSub T "tuple" = false) (hn : v.isNone = false) (hc : v.notCon) : BadV H m v
  | len {l : List V} (h : l.length ≠ 2) (hz : l.length ≤ 1000) : BadV H m (.tup l)
  | first {a b : V} {T : String} (ht : tyOf H a = some T) (hT : isSub T "str" = false) : BadV H m (.tup [a, b])
  | word {w : Str} {b : V} (h1 : (w != Str.ofString "all") = true) (h2 : (w != Str.ofString "any") = true) : BadV H m (.tup [.str w, b])
  | list {w : Str} {b : V} {T : String} (hw : w = Str.ofString "all" ∨ w = Str.ofString "any") (ht : tyOf H b = some T) (hT : isSub T "list" = false) : BadV H m (.tup [.str w, b])
  | empty {w : Str} (hw : w = Str.ofString "all" ∨ w = Str.ofString "any") : BadV H m (.tup [.str w, .lst []])
  | hands {w : Str} {l : List V} (hw : w = Str.ofString "all" ∨ w = Str.ofString "any") (hl : l ≠ []) (hz : l.length ≤ 100) (ht : ∀ x ∈ l, ∃ T, tyOf H x = some T) (hp : pureL l = true) (ho : okD (.list (datL l)) = true) (hb : BadH m l []) : BadV H m (.tup [.str w, .lst l])
def S_badwait : SpecT := fun args Q R H => ∃ (v : V) (m : Int), args = [v, .int m] ∧ BadV H m v ∧ Q (.bool false) H
set_option maxHeartbeats 4000000 in
theorem badwait_ok (P : PCx C (K1x C)) (k : Nat) : FnOK C (k + 2) (.ref 84) S_badwait := by
  refine FnOK.ofS (K := K1x C) [Str.ofString "thing", Str.ofString "many"] P rfl rfl (by kernel_rfl) ?_ (by kernel_rfl) (by kernel_rfl) ?_
  · intro vals h
    rcases vals with _ | ⟨a, _ | ⟨b, _ | ⟨c, t⟩⟩⟩ <;> simp at h
    rfl
  · rintro args Q R H ⟨v, m, rfl, hb, hQ⟩
    refine ⟨rfl, fun L P => ?_⟩
    cases hb with
    | kind ht hT hn hc =>
      walk_at "w"
      refine CmpW.isNone hc ?_
      rw [hn]
      walk_at "w"
      refine ite_f rfl ?_
      walk_at "w"
      refine CallW.isi_tuple ht ?_
      rw [hT]
      walk_at "w"
      refine ite_t rfl ?_
      refine ite_t rfl ?_
      walk_at "w"
      exact RetQ.here hQ
    | len h hz =>
      walk_at "w"
      refine CmpW.isNone trivial ?_
      walk_at "w"
      refine ite_f rfl ?_
      walk_at "w"
      refine CallW.isi_tuple rfl ?_
      walk_at "w"
      refine ite_f rfl ?_
      walk_at "w"
      refine CallW.lenT (by omega) ?_
      walk_at "w"
      refine ite_t (by simp; omega) ?_
      refine ite_t rfl ?_
      walk_at "w"
      exact RetQ.here hQ
    | first ht hT =>
      walk_at "w"
      refine CmpW.isNone trivial ?_
      walk_at "w"
      refine ite_f rfl ?_
      walk_at "w"
      refine CallW.isi_tuple rfl ?_
      walk_at "w"
      refine ite_f rfl ?_
      walk_at "w"
      refine CallW.lenT (by simp) ?_
      walk_at "w"
      refine ite_f rfl ?_
      walk_at "w"
      refine SubW.tup (by omega) (by omega) rfl ?_
      walk_at "w"
      refine CallW.isi_str ht ?_
      rw [hT]
      walk_at "w"
      refine ite_t rfl ?_
      refine ite_t rfl ?_
      walk_at "w"
      exact RetQ.here hQ
    | word h1 h2 =>
      walk_at "w"
      refine CmpW.isNone trivial ?_
      walk_at "w"
      refine ite_f rfl ?_
      walk_at "w"
      refine CallW.isi_tuple rfl ?_
      walk_at "w"
      refine ite_f rfl ?_
      walk_at "w"
      refine CallW.lenT (by simp) ?_
      walk_at "w"
      refine ite_f rfl ?_
      walk_at "w"
      refine SubW.tup (by omega) (by omega) rfl ?_
      walk_at "w"
      refine CallW.isi_str rfl ?_
      walk_at "w"
      refine ite_f rfl ?_
      walk_at "w"
      refine ite_f rfl ?_
      walk_at "w"
      refine SubW.tup (by omega) (by omega) rfl ?_
      walk_at "w"
      refine ite_t h1 ?_
      walk_at "w"
      refine SubW.tup (by omega) (by omega) rfl ?_
      walk_at "w"
      refine ite_t h2 ?_
      walk_at "w"
      refine ite_t rfl ?_
      refine ite_t rfl ?_
      walk_at "w"
      exact RetQ.here hQ
    | list hw ht hT =>
      walk_at "w"
      refine CmpW.isNone trivial ?_
      walk_at "w"
      refine ite_f rfl ?_
      walk_at "w"
      refine CallW.isi_tuple rfl ?_
      walk_at "w"
      refine ite_f rfl ?_
      walk_at "w"
      refine CallW.lenT (by simp) ?_
      walk_at "w"
      refine ite_f rfl ?_
      walk_at "w"
      refine SubW.tup (by omega) (by omega) rfl ?_
      walk_at "w"
      refine CallW.isi_str rfl ?_
      walk_at "w"
      refine ite_f rfl ?_
      walk_at "w"
      refine ite_f rfl ?_
      walk_at "w"
      refine SubW.tup (by omega) (by omega) rfl ?_
      walk_at "w"
      rcases hw with rfl | rfl
      case' inr =>
        refine ite_t rfl ?_
        walk_at "w"
        refine SubW.tup (by omega) (by omega) rfl ?_
        walk_at "w"
        refine ite_f rfl ?_
      case' inl =>
        refine ite_f rfl ?_
      all_goals
        walk_at "w"
        refine ite_f rfl ?_
        walk_at "w"
        refine SubW.tup (by omega) (by omega) rfl ?_
        walk_at "w"
        refine CallW.isi_list ht ?_
        rw [hT]
        walk_at "w"
        refine ite_t rfl ?_
        refine ite_t rfl ?_
        walk_at "w"
        exact RetQ.here hQ
    | hands hw hl hz ht hp ho hb =>
      rename_i w l
      walk_at "w"
      refine CmpW.isNone trivial ?_
      walk_at "w"
      refine ite_f rfl ?_
      walk_at "w"
      refine CallW.isi_tuple rfl ?_
      walk_at "w"
      refine ite_f rfl ?_
      walk_at "w"
      refine CallW.lenT (by simp) ?_
      walk_at "w"
      refine ite_f rfl ?_
      walk_at "w"
      refine SubW.tup (by omega) (by omega) rfl ?_
      walk_at "w"
      refine CallW.isi_str rfl ?_
      walk_at "w"
      refine ite_f rfl ?_
      walk_at "w"
      refine ite_f rfl ?_
      walk_at "w"
      refine SubW.tup (by omega) (by omega) rfl ?_
      walk_at "w"
      rcases hw with rfl | rfl
      case' inr =>
        refine ite_t rfl ?_
        walk_at "w"
        refine SubW.tup (by omega) (by omega) rfl ?_
        walk_at "w"
        refine ite_f rfl ?_
      case' inl =>
        refine ite_f rfl ?_
      all_goals
        walk_at "w"
        refine ite_f rfl ?_
        walk_at "w"
        refine SubW.tup (by omega) (by omega) rfl ?_
        walk_at "w"
        refine CallW.isi_list rfl ?_
        walk_at "w"
        refine ite_f rfl ?_
        walk_at "w"
        refine SubW.tup (by omega) (by omega) rfl ?_
        refine EvalW.list_fz ?_
        walk_at "w"
        refine ⟨by simp, ?_⟩
        refine CmpW.eq hp rfl ho (show okD (.list (datL [])) = true by decide +kernel) ?_
        have e0 : PyData.eqv (see H (V.lst l)).dat (see H (V.lst [])).dat = false := by
          cases l with
          | nil => exact absurd rfl hl
          | cons x r => rfl
        rw [e0]
        walk_at "w"
        refine ite_f rfl ?_
        walk_at "w"
        refine ite_f rfl ?_
        walk_at "w"
        refine EvalW.dictI fun a ha => ?_
        walk_at "w"
        refine ExecW.for_in false P.hd (fun e => by cases e) ?_
        refine IterE.list ?_
        walk_at "w"
        refine SubW.tup (by omega) (by omega) rfl ?_
        refine ⟨_, rfl, fun r l' H' => ∃ (seen : List Int) (d : Int → Option V) (n : Nat), BadH m r seen ∧ (∀ x ∈ r, x ∈ l) ∧ n + r.length ≤ 100 ∧ l' = [(Str.ofString "many", V.int m), (Str.ofString "met", V.ref a)] ∧ H' a = some (.dictI d n) ∧ (∀ x, (d x).isSome = true ↔ x ∈ seen) ∧ Hp.le H H', ?_, ?_, ?_, ?_⟩
        · exact ⟨_, ⟨[], _, 0, hb, fun _ h => h, by omega, rfl, Hp.set_self .., fun _ => by simp, Hp.le_set ha⟩, rfl, rfl, trivial⟩
        · rintro r l' H' _; rfl
        · rintro v r l' H' ⟨seen, d, n, hbr, hm, hnn, rfl, g1, g2, g3⟩
          obtain ⟨T, hT⟩ := ht v (hm v (.head _))
          have hT' : tyOf H' v = some T := by
            cases v with
            | ref b =>
              simp only [tyOf] at hT ⊢
              cases q : H b with
              | none => rw [q] at hT; cases hT
              | some o => rw [g3 _ _ q]; rw [q] at hT; exact hT
            | _ => exact hT
          rw [List.length_cons] at hnn
          refine AssignW.name (Or.inl rfl) ?_
          walk_at "w"
          refine (placeV_ok P _).call ⟨v, m, T, rfl, hT', ?_⟩
          walk_at "w"
          cases hbr with
          | odd h =>
            rw [h]
            refine ite_t rfl ?_
            refine ite_t rfl ?_
            walk_at "w"
            exact RetQ.fz (ρ := fun _ => Option.none) (Fz.drop g3) hQ
          | twice h hs =>
            rw [h]
            refine ite_f rfl ?_
            walk_at "w"
            refine CmpW.inI g1 ?_
            walk_at "w"
            refine ite_t ((g2 _).mpr hs) ?_
            refine ite_t rfl ?_
            walk_at "w"
            exact RetQ.fz (ρ := fun _ => Option.none) (Fz.drop g3) hQ
          | next h hs hr =>
            rename_i i
            rw [h]
            refine ite_f rfl ?_
            walk_at "w"
            refine CmpW.inI g1 ?_
            walk_at "w"
            have hd0 : (d i).isSome = false := by
              cases q : (d i).isSome with
              | false => rfl
              | true => exact absurd ((g2 i).mp q) hs
            refine ite_f hd0 ?_
            walk_at "w"
            refine ite_f rfl ?_
            walk_at "w"
            refine SetW.dictI g1 (by omega) ?_
            walk_at "w"
            refine ⟨_, ⟨i :: seen, _, n + 1, hr, fun x hx => hm x (.tail _ hx), by omega, rfl, Hp.set_self .., fun x => ?_, Hp.le_set' g3 ha⟩, rfl, rfl, trivial⟩
            by_cases q : x = i
            · subst q; simp
            · simp only [q, if_false]; rw [g2 x]; simp [q]
        · rintro l' H' ⟨seen, d, n, hbr, _⟩
          cases hbr
    | empty hw =>
      walk_at "w"
      refine CmpW.isNone trivial ?_
      walk_at "w"
      refine ite_f rfl ?_
      walk_at "w"
      refine CallW.isi_tuple rfl ?_
      walk_at "w"
      refine ite_f rfl ?_
      walk_at "w"
      refine CallW.lenT (by simp) ?_
      walk_at "w"
      refine ite_f rfl ?_
      walk_at "w"
      refine SubW.tup (by omega) (by omega) rfl ?_
      walk_at "w"
      refine CallW.isi_str rfl ?_
      walk_at "w"
      refine ite_f rfl ?_
      walk_at "w"
      refine ite_f rfl ?_
      walk_at "w"
      refine SubW.tup (by omega) (by omega) rfl ?_
      walk_at "w"
      rcases hw with rfl | rfl
      case' inr =>
        refine ite_t rfl ?_
        walk_at "w"
        refine SubW.tup (by omega) (by omega) rfl ?_
        walk_at "w"
        refine ite_f rfl ?_
      case' inl =>
        refine ite_f rfl ?_
      all_goals
        walk_at "w"
        refine ite_f rfl ?_
        walk_at "w"
        refine SubW.tup (by omega) (by omega) rfl ?_
        walk_at "w"
        refine CallW.isi_list rfl ?_
        walk_at "w"
        refine ite_f rfl ?_
        walk_at "w"
        refine SubW.tup (by omega) (by omega) rfl ?_
        refine EvalW.list_fz ?_
        walk_at "w"
        refine ⟨by simp, ?_⟩
        refine CmpW.eqN (l := []) (l' := []) rfl lview_nv0 ?_
        walk_at "w"
        refine ite_t rfl ?_
        refine ite_t rfl ?_
        walk_at "w"
        exact RetQ.here hQ
variable {C : Cx}
def S_mixed : SpecT := S_mixG 48271 7919 999983
set_option maxHeartbeats 4000000 in
theorem cell_ok (P : PCx C (K1x C)) (k : Nat) : FnOK C (k + 1) (.ref 98) S_cell := by
  refine FnOK.ofS (K := K1x C) [Str.ofString "_law_script", Str.ofString "_law_k"] P rfl rfl (by kernel_rfl) ?_ (by kernel_rfl) (by kernel_rfl) ?_
  · intro vals h
    rcases vals with _ | ⟨a, _ | ⟨b, _ | ⟨c, t⟩⟩⟩ <;> simp at h
    rfl
  · rintro args Q R H ⟨ns, i, rfl, hi, hn, hQ⟩
    refine ⟨rfl, fun L P => ?_⟩
    walk_at "w"
    refine CallW.len rfl (by simp; omega) ?_
    walk_at "w"
    refine ite_w (fun h => ?_) fun h => ?_
    · simp at h
      walk_at "w"
      refine SubW.list (l := ns.map .int) rfl hi (by omega) (u := .int (cellV ns i)) ?_ ?_
      · have : i.toNat < ns.length := by omega
        simp [cellV, this]
      · exact ⟨_, _, Fz.refl, hQ⟩
    · simp at h
      walk_at "w"
      refine ⟨_, _, Fz.refl, ?_⟩
      have : cellV ns i = 0 := by simp [cellV]; rw [List.getElem?_eq_none (by omega)]; rfl
      rw [this] at hQ; exact hQ

set_option maxHeartbeats 4000000 in
theorem mixed_ok (P : PCx C (K1x C)) (k : Nat) : FnOK C (k + 2) (.ref 105) S_mixed := by
  refine FnOK.ofS (K := K1x C) [Str.ofString "_law_script", Str.ofString "_law_k", Str.ofString "_law_salt"] P rfl rfl (by kernel_rfl) ?_ (by kernel_rfl) (by kernel_rfl) ?_
  · intro vals h
    rcases vals with _ | ⟨a, _ | ⟨b, _ | ⟨c, _ | ⟨d, t⟩⟩⟩⟩ <;> simp at h
    rfl
  · rintro args Q R H ⟨ns, i, j, rfl, hi, hn, hQ⟩
    refine ⟨rfl, fun L P => ?_⟩
    walk_at "w"
    refine (cell_ok P k).call ⟨ns, i, rfl, hi, hn, ?_⟩
    walk_at "w"
    exact ⟨_, _, Fz.refl, hQ⟩

set_option maxHeartbeats 4000000 in
theorem is_place_ok (P : PCx C (K1x C)) (k : Nat) : FnOK C (k + 1) (.ref 77) S_is_place := by
  refine FnOK.ofS (K := K1x C) [Str.ofString "thing", Str.ofString "many"] P rfl rfl (by kernel_rfl) ?_ (by kernel_rfl) (by kernel_rfl) ?_
  · intro vals h
    rcases vals with _ | ⟨a, _ | ⟨b, _ | ⟨c, t⟩⟩⟩ <;> simp at h
    rfl
  · rintro args Q R H ⟨i, m, rfl, hQ⟩
    refine ⟨rfl, fun L P => ?_⟩
    walk_at "w"
    refine CallW.isi_int rfl ?_
    walk_at "w"
    refine ite_t rfl ?_
    walk_at "w"
    refine CallW.isi_bool rfl ?_
    walk_at "w"
    refine ite_t rfl ?_
    walk_at "w"
    refine ite_w (fun h => ?_) fun h => ?_
    · walk_at "w"
      refine RetQ.here ?_
      rw [h] at hQ; exact hQ
    · walk_at "w"
      refine RetQ.here ?_
      rw [h] at hQ ⊢; exact hQ

set_option maxHeartbeats 4000000 in
theorem is_wait_ok (P : PCx C (K1x C)) (k : Nat) : FnOK C (k + 2) (.ref 84) S_is_wait := by
  refine FnOK.ofS (K := K1x C) [Str.ofString "thing", Str.ofString "many"] P rfl rfl (by kernel_rfl) ?_ (by kernel_rfl) (by kernel_rfl) ?_
  · intro vals h
    rcases vals with _ | ⟨a, _ | ⟨b, _ | ⟨c, t⟩⟩⟩ <;> simp at h
    rfl
  · rintro args Q R H ⟨w, m, rfl, hw, hQ⟩
    refine ⟨rfl, fun L P => ?_⟩
    cases w with
    | none =>
      walk_at "w"
      refine CmpW.isNone trivial ?_
      walk_at "w"
      refine ite_t rfl ?_
      walk_at "w"
      exact RetQ.here hQ
    | some w =>
      obtain ⟨b, l⟩ := w
      obtain ⟨hw1, hw2, hw3, hw4⟩ := hw
      simp only [wv]
      walk_at "w"
      refine CmpW.isNone trivial ?_
      walk_at "w"
      refine ite_f rfl ?_
      walk_at "w"
      refine CallW.isi_tuple rfl ?_
      walk_at "w"
      refine ite_f rfl ?_
      walk_at "w"
      refine CallW.lenT (by simp) ?_
      walk_at "w"
      refine ite_f rfl ?_
      walk_at "w"
      refine SubW.tup (by omega) (by omega) rfl ?_
      walk_at "w"
      refine CallW.isi_str rfl ?_
      walk_at "w"
      refine ite_f rfl ?_
      walk_at "w"
      refine ite_f rfl ?_
      walk_at "w"
      refine SubW.tup (by omega) (by omega) rfl ?_
      walk_at "w"
      cases b
      case' false =>
        refine ite_t rfl ?_
        walk_at "w"
        refine SubW.tup (by omega) (by omega) rfl ?_
        walk_at "w"
        refine ite_f rfl ?_
      case' true =>
        refine ite_f rfl ?_
      all_goals
        walk_at "w"
        refine ite_f rfl ?_
        walk_at "w"
        refine SubW.tup (by omega) (by omega) rfl ?_
        walk_at "w"
        refine CallW.isi_list rfl ?_
        walk_at "w"
        refine ite_f rfl ?_
        walk_at "w"
        refine SubW.tup (by omega) (by omega) rfl ?_
        refine EvalW.list_fz ?_
        walk_at "w"
        refine ⟨by simp, ?_⟩
        refine CmpW.eqN rfl lview_nv0 ?_
        walk_at "w"
        refine ite_f (by simpa using hw1) ?_
        walk_at "w"
        refine ite_f rfl ?_
        walk_at "w"
        refine EvalW.dictI fun a ha => ?_
        walk_at "w"
        refine ExecW.for_in false P.hd (fun e => by cases e) ?_
        refine IterE.list ?_
        walk_at "w"
        refine SubW.tup (by omega) (by omega) rfl ?_
        refine ⟨_, rfl, fun r l' H' => ∃ (i : Nat) (d : Int → Option V) (n : Nat), r = (l.map nv).drop i ∧ i ≤ l.length ∧ n ≤ i ∧ l' = [(Str.ofString "many", V.int m), (Str.ofString "met", V.ref a)] ∧ H' a = some (.dictI d n) ∧ (∀ x : Nat, x ∉ l.take i → d x = none) ∧ Hp.le H H', ?_, ?_, ?_, ?_⟩
        · exact ⟨_, ⟨0, _, 0, rfl, Nat.zero_le _, Nat.le_refl _, rfl, Hp.set_self .., fun _ _ => rfl, Hp.le_set ha⟩, rfl, rfl, trivial⟩
        · rintro r l' H' ⟨i, d, n, _⟩; rfl
        · rintro v r l' H' ⟨i, d, n, e, hi, hni, rfl, h1, h2, h3⟩
          obtain ⟨hv, hr, hlt⟩ := drop_cons e
          rw [List.length_map] at hlt
          rw [List.getElem?_map, List.getElem?_eq_getElem hlt] at hv
          cases hv
          have hx : l[i] < m := hw3 _ (List.getElem_mem hlt)
          generalize hxe : l[i] = x at hx
          have hnx : x ∉ l.take i := by
            intro hm
            obtain ⟨j, hj, e⟩ := List.mem_take_iff_getElem.mp hm
            have := (List.nodup_iff_pairwise_ne.mp hw2)
            rw [List.pairwise_iff_getElem] at this
            exact this j i (by omega) hlt (by omega) (by rw [e, hxe])
          refine AssignW.name (Or.inl rfl) ?_
          simp only [nv]
          walk_at "w"
          refine (is_place_ok P k).call ⟨_, _, rfl, ?_⟩
          walk_at "w"
          refine ite_f (by simp; omega) ?_
          walk_at "w"
          refine CmpW.inI h1 ?_
          walk_at "w"
          refine ite_f (by rw [h2 x hnx]; rfl) ?_
          walk_at "w"
          refine ite_f rfl ?_
          walk_at "w"
          refine SetW.dictI h1 (by omega) ?_
          walk_at "w"
          refine ⟨_, ⟨i + 1, _, n + 1, hr, hlt, by omega, rfl, Hp.set_self .., fun y hy => ?_, Hp.le_set' h3 ha⟩, rfl, rfl, trivial⟩
          rw [List.take_add_one, List.getElem?_eq_getElem hlt] at hy
          have hy1 : y ∉ l.take i := fun h => hy (List.mem_append.mpr (.inl h))
          have : y ≠ x := fun q => hy (List.mem_append.mpr (.inr (by rw [q, hxe]; exact List.mem_singleton.mpr rfl)))
          have : ¬ (y : Int) = (x : Int) := by omega
          simp only [this, if_false]
          exact h2 y hy1
        · rintro l' H' ⟨i, d, n, e, hi, hni, rfl, h1, h2, h3⟩
          walk_at "w"
          exact RetQ.fz (Fz.drop h3) hQ

def waitByL (n s : Int) : Wt := if n % 5 = 0 then none else some (n % 2 == 0, othersG 15 900 97 n s (n / 5 % 3).toNat)
def S_wait_by : SpecT := fun args Q R H => ∃ (n : Int) (s : Nat), args = [.int n, .int s] ∧ 0 ≤ n ∧ 0 < s ∧ s ≤ 40 ∧ Q (wv (waitByL n s)) H
theorem waitByL_ok (n : Int) (s : Nat) (hs : 0 < s) : WOk s (waitByL n s) := by
  unfold waitByL
  generalize (5 : Int) = m
  by_cases hm : n % m = 0
  · rw [if_pos hm]; trivial
  · rw [if_neg hm]; exact waitG_ok _ _ _ _ _ _ _ hs (by omega)

set_option maxHeartbeats 4000000 in
theorem wait_by_ok (P : PCx C (K1x C)) (k : Nat) : FnOK C (k + 1) (.ref 112) S_wait_by := by
  refine FnOK.ofS (K := K1x C) [Str.ofString "_law_number", Str.ofString "_law_size"] P rfl rfl (by kernel_rfl) ?_ (by kernel_rfl) (by kernel_rfl) ?_
  · intro vals h
    rcases vals with _ | ⟨a, _ | ⟨b, _ | ⟨c, t⟩⟩⟩ <;> simp at h
    rfl
  · rintro args Q R H ⟨n, s, rfl, hn, hs, hs', hQ⟩
    refine ⟨rfl, fun L P => ?_⟩
    walk_at "w"
    refine ite_w (fun h => ?_) fun h => ?_
    · have h : n % 5 = 0 := by simpa using h
      walk_at "w"
      refine RetQ.here ?_
      unfold waitByL at hQ
      rw [if_pos h] at hQ; exact hQ
    · have h : ¬ n % 5 = 0 := by simpa using h
      unfold waitByL at hQ
      rw [if_neg h] at hQ
      walk_at "w"
      refine EvalW.list ?_
      walk_at "w"
      refine ⟨by simp, fun a ha => ?_⟩
      walk_at "w"
      refine ExecW.for_in false P.hd (fun e => by cases e) ?_
      refine IterE.range (P.blt (by kernel_rfl) (by boot_fast)) rfl ?_
      walk_at "w"
      refine ⟨_, rfl, by omega, by omega, ?_⟩
      refine ⟨fun r l H' => ∃ i : Nat, r = (rangeV (n / 5 % 3).toNat).drop i ∧ i ≤ (n / 5 % 3).toNat ∧ l = [(Str.ofString "_law_number", V.int n), (Str.ofString "_law_size", V.int s), (Str.ofString "_law_others", V.ref a)] ∧ H' a = some (.list ((othersG 15 900 97 n s i).map nv)) ∧ Hp.le H H', ?_, ?_, ?_, ?_⟩
      · refine ⟨_, ⟨0, rfl, Nat.zero_le _, rfl, ?_, Hp.le_set ha⟩, rfl, rfl, rfl, trivial⟩
        rw [Hp.set_self]
        have : ((n / 15 % (s : Int)).toNat : Int) = n / 15 % s := Int.toNat_of_nonneg (Int.emod_nonneg _ (by omega))
        simp [othersG, nv, this]
      · intros; trivial
      · rintro v r l H' ⟨i, e, hi, rfl, h1, h2⟩
        obtain ⟨hv, hr, hlt⟩ := drop_cons e
        rw [ints_length] at hlt
        rw [ints_get hlt] at hv
        cases hv
        refine AssignW.name (Or.inl rfl) ?_
        walk_at "w"
        refine SubW.list (lview_ref h1) (by omega) (by omega) (u := nv (n / 15 % s).toNat) ?_ ?_
        · obtain ⟨t, e⟩ := othersG_head 15 900 97 n s i
          rw [e]; rfl
        have e1 : ((n / 15 % (s : Int)).toNat : Int) = n / 15 % s := Int.toNat_of_nonneg (Int.emod_nonneg _ (by omega))
        rw [nv, e1]
        walk_at "w"
        have e2 : (n / 15 % (s : Int) + 1 + n / (900 + 97 * (i : Int)) % s) % s = (moreG 900 97 n s (n / 15 % s) i : Nat) := (Int.toNat_of_nonneg (Int.emod_nonneg _ (by omega))).symm
        rw [e2]
        generalize hm : moreG 900 97 n s (n / 15 % s) i = m
        walk_at "w"
        refine CmpW.notInN (lview_ref h1) (by omega) ?_
        walk_at "w"
        have e3 : othersG 15 900 97 n s (i + 1) = if m ∈ othersG 15 900 97 n s i then othersG 15 900 97 n s i else othersG 15 900 97 n s i ++ [m] := by rw [← hm]; rfl
        refine ite_w (fun h => ?_) fun h => ?_
        · have h : ¬ m ∈ othersG 15 900 97 n s i := by simpa using h
          rw [if_neg h] at e3
          walk_at "w"
          refine ⟨_, MethIs.append h1, Plainly.builtin _, ?_⟩
          walk_at "w"
          refine CallW.append h1 (by have := othersG_len 15 900 97 n s i; simp; omega) ?_
          walk_at "w"
          refine ⟨_, ⟨i + 1, hr, hlt, rfl, ?_, Hp.le_set' h2 ha⟩, rfl, rfl, rfl, trivial⟩
          rw [Hp.set_self, e3]; simp [nv]
        · have h : m ∈ othersG 15 900 97 n s i := by simpa using h
          rw [if_pos h] at e3
          walk_at "w"
          refine ⟨_, ⟨i + 1, hr, hlt, rfl, ?_, h2⟩, rfl, rfl, rfl, trivial⟩
          rw [e3]; exact h1
      · rintro l H' ⟨i, e, hi, rfl, h1, h2⟩
        have hle := drop_nil e
        rw [ints_length] at hle
        have hi : i = (n / 5 % 3).toNat := by omega
        subst hi
        walk_at "w"
        refine EvalW.list_fz ?_
        walk_at "w"
        refine ⟨by simp, ?_⟩
        walk_at "w"
        refine SubW.list rfl (by omega) (by omega) (u := .str (Str.ofString (if (n % 2 == 0) = true then "all" else "any"))) ?_ ?_
        · have : n % 2 = 0 ∨ n % 2 = 1 := by omega
          rcases this with e | e <;> rw [e] <;> rfl
        walk_at "w"
        refine ⟨?_, by simp⟩
        walk_at "w"
        refine RetQ.fz (Fz.of (D := fun b => b = a) (.tup (.cons (.refl _) (.cons (.thaw rfl h1 (fz_new.FzRL_refl _)) .nil))) h2 (by rintro b rfl; exact ha)) hQ

variable {C : Cx}
def GoodV (m : Nat) (v : V) : Prop := ∃ w, v = wv w ∧ WOk m w
/-- what need says: none is good, else what stands in at -/
inductive NeedR (H : Hp) : V → Option V → Prop
  | good {l : List V} (h1 : 0 < l.length) (h2 : l.length ≤ 40) (h : ∀ v ∈ l, GoodV l.length v) : NeedR H (.lst l) none
  | kind {v : V} {T : String} (ht : tyOf H v = some T) (hT : isSub T "list" = false) : NeedR H v (some .none)
  | size {l : List V} (h : l.length = 0 ∨ 40 < l.length) (hz : l.length ≤ 1000) : NeedR H (.lst l) (some .none)
  | at {l : List V} {i : Nat} {v : V} (h2 : l.length ≤ 40) (hv : l[i]? = some v) (hg : ∀ j, j < i → ∀ u, l[j]? = some u → GoodV l.length u) (hb : BadV H l.length v) : NeedR H (.lst l) (some (.int i))
def atNs (u : V) : O := .ns (Rho.set (Rho.of []) (Str.ofString "at") u) 1
/-- BadWaits with at = u has come out -/
def NeedX (H : Hp) (u : V) (R : V → Hp → Prop) : Prop := ∀ e d T H', H' e = some (.exc 44 (some d) (some T)) → H' T = some (.tb none) → H' d = some (atNs u) → H e = none → H d = none → (∀ b, (∀ fl, H b ≠ some (.tb fl)) → H b ≠ none → H' b = H b) → R (.ref e) H'
theorem NeedX.xr {H Hm : Hp} {u : V} {R : V → Hp → Prop} {L e d : Addr} {T0 : Option Addr} (h : NeedX H u R) (h1 : Hm e = some (.exc 44 (some d) T0)) (hT : T0 = none ∨ ∃ T fl, T0 = some T ∧ Hm T = some (.tb fl) ∧ (fl = none ∨ fl = some L))
    (h2 : Hm d = some (atNs u)) (he : H e = none) (hd : H d = none) (hk : ∀ b, H b ≠ none → Hm b = H b) : XR L R (.ref e) Hm := by
  refine ⟨e, 44, some d, T0, rfl, h1, hT, fun H' T' e1 e2 e3 => ?_⟩
  have hde : d ≠ e := fun q => by rw [q, h1] at h2; cases h2
  refine h e d T' H' e1 e2 ?_ he hd fun b nt nn => ?_
  · rw [e3 d hde (fun fl q => by rw [h2] at q; cases q) (by rw [h2]; simp)]; exact h2
  · have hbe : b ≠ e := fun q => nn (q ▸ he)
    have := hk b nn
    rw [e3 b hbe (fun fl q => nt fl (this ▸ q)) (this ▸ nn), this]
theorem NeedX.fresh {H : Hp} {u : V} {R : V → Hp → Prop} {L e d : Addr} (h : NeedX H u R) (he : H e = none) (hd : (H.set e (.exc 44 none none)) d = none) (hne : d ≠ e) : XR L R (.ref e) (((H.set e (.exc 44 none none)).set d (atNs u)).set e (.exc 44 (some d) none)) := by
  have hd' : H d = none := by simpa [Hp.set, hne] using hd
  refine h.xr (d := d) (T0 := none) (by simp [Hp.set]) (.inl rfl) (by simp [Hp.set, hne]) he hd' fun b nb => ?_
  have h1 : b ≠ e := fun q => nb (q ▸ he)
  have h2 : b ≠ d := fun q => nb (q ▸ hd')
  simp [Hp.set, h1, h2]
theorem NeedX.loop {H : Hp} {u : V} {R : V → Hp → Prop} {ρ : Rho} {L e d : Addr} (h : NeedX H u R) (he : H e = none) (hd : (H.set e (.exc 44 none none)) d = none) (hne : d ≠ e) : LoopX L (fun v _ H' => XR L R v H') (.ref e) ρ (((H.set e (.exc 44 none none)).set d (atNs u)).set e (.exc 44 (some d) none)) := by
  have hd' : H d = none := by simpa [Hp.set, hne] using hd
  refine ⟨e, 44, some d, rfl, by simp [Hp.set], fun T nT hTe => ?_⟩
  have hTd : T ≠ d := fun q => by subst q; simp [Hp.set, hne] at nT
  have hT : H T = none := by simpa [Hp.set, hTe, hTd] using nT
  refine h.xr (d := d) (T0 := some T) (by simp [Hp.set]) (.inr ⟨T, some L, rfl, by simp [Hp.set, hTe], .inr rfl⟩) (by simp [Hp.set, hne, hTd.symm]) he hd' fun b nb => ?_
  have h1 : b ≠ e := fun q => nb (q ▸ he)
  have h2 : b ≠ d := fun q => nb (q ▸ hd')
  have h3 : b ≠ T := fun q => nb (q ▸ hT)
  simp [Hp.set, h1, h2, h3]
def NeedO (H : Hp) (r : Option V) (Q R : V → Hp → Prop) : Prop := match r with
  | none => Q (.bool true) H
  | some u => NeedX H u R
def S_needX : SpecT := fun args Q R H => ∃ (v : V) (r : Option V), args = [v] ∧ NeedR H v r ∧ NeedO H r Q R
set_option maxHeartbeats 4000000 in
theorem needX_ok {l : List Env} (P : PCx C (K1x C)) (hC : C.frs = some l) (k : Nat) : FnOK C (k + 5) (.ref 91) S_needX := by
  refine FnOK.ofSX (K := K1x C) [Str.ofString "waits"] P hC rfl rfl (by kernel_rfl) ?_ (by kernel_rfl) (by kernel_rfl) ?_
  · intro vals h
    rcases vals with _ | ⟨a, _ | ⟨b, t⟩⟩ <;> simp at h
    rfl
  · rintro args Q R H ⟨v, r, rfl, hr, hQ⟩
    refine ⟨rfl, fun L P hfr hL => ?_⟩
    cases hr with
    | good h1 h2 h =>
      rename_i W
      have hQ : Q (.bool true) H := hQ
      walk_at "w"
      refine CallW.isi_list rfl ?_
      walk_at "w"
      refine ite_f rfl ?_
      walk_at "w"
      refine CallW.len rfl (by omega) ?_
      walk_at "w"
      refine ite_t (by simp; omega) ?_
      walk_at "w"
      refine EvalW.global (P.globInt (i := 40) (t := 266) (by kernel_rfl)) ?_ rfl
      walk_at "w"
      refine ite_f (by simp; omega) ?_
      walk_at "w"
      refine ite_f rfl ?_
      walk_at "w"
      refine ExecW.for_all true P.hd (fun _ => ⟨_, _, _, rfl⟩) [(Str.ofString "waits", V.lst W)] ⟨rfl, trivial⟩ ?_
      refine IterE.enum (P.blt (by kernel_rfl) (by boot_fast)) rfl ?_
      walk_at "w"
      refine ⟨_, rfl, fun _ => True, rfl, ?_, ?_⟩
      · intro i v hv _
        rw [enumV, enumFrom_get] at hv
        cases hw : W[i]? with
        | none => rw [hw] at hv; cases hv
        | some w =>
          rw [hw] at hv; cases hv
          have hmem : w ∈ W := List.mem_of_getElem? hw
          obtain ⟨w, rfl, hwo⟩ := h w hmem
          refine AssignW.tuple (.cons (Or.inl rfl) (.cons (Or.inl rfl) .nil)) rfl P.hd ?_
          walk_at "w"
          refine CallW.len rfl (by omega) ?_
          walk_at "w"
          refine (is_wait_ok P _).call ⟨w, W.length, rfl, hwo, ?_⟩
          walk_at "w"
          refine ite_f rfl ?_
          walk_at "w"
          exact ⟨trivial, rfl, rfl, trivial⟩
      · intro _
        walk_at "w"
        exact RetQ.here hQ
    | kind ht hT =>
      have hQ : NeedX H .none R := hQ
      walk_at "w"
      refine CallW.isi_list ht ?_
      rw [hT]
      walk_at "w"
      refine ite_t rfl ?_
      refine ite_t rfl ?_
      walk_at "w"
      refine ExecW.raise44 P rfl rfl rfl ?_
      walk_at "w"
      exact fun e d he hd hne => hQ.fresh he hd hne
    | size h hz =>
      rename_i W
      have hQ : NeedX H .none R := hQ
      walk_at "w"
      refine CallW.isi_list rfl ?_
      walk_at "w"
      refine ite_f rfl ?_
      walk_at "w"
      refine CallW.len rfl (by omega) ?_
      walk_at "w"
      by_cases h0 : W.length = 0
      · refine ite_f (by simp; omega) ?_
        walk_at "w"
        refine ite_t rfl ?_
        refine ite_t rfl ?_
        walk_at "w"
        refine ExecW.raise44 P rfl rfl rfl ?_
        walk_at "w"
        exact fun e d he hd hne => hQ.fresh he hd hne
      · refine ite_t (by simp; omega) ?_
        walk_at "w"
        refine EvalW.global (P.globInt (i := 40) (t := 266) (by kernel_rfl)) ?_ rfl
        walk_at "w"
        refine ite_t (by simp; omega) ?_
        refine ite_t rfl ?_
        walk_at "w"
        refine ExecW.raise44 P rfl rfl rfl ?_
        walk_at "w"
        exact fun e d he hd hne => hQ.fresh he hd hne
    | «at» h2 hv hg hb =>
      rename_i W i0 v0
      have hQ : NeedX H (.int i0) R := hQ
      have hi0 : i0 < W.length := (List.getElem?_eq_some_iff.mp hv).1
      walk_at "w"
      refine CallW.isi_list rfl ?_
      walk_at "w"
      refine ite_f rfl ?_
      walk_at "w"
      refine CallW.len rfl (by omega) ?_
      walk_at "w"
      refine ite_t (by simp; omega) ?_
      walk_at "w"
      refine EvalW.global (P.globInt (i := 40) (t := 266) (by kernel_rfl)) ?_ rfl
      walk_at "w"
      refine ite_f (by simp; omega) ?_
      walk_at "w"
      refine ite_f rfl ?_
      walk_at "w"
      refine ExecW.for_inX true P.hd (fun _ => ⟨_, _, _, rfl⟩) hfr hL ?_
      refine IterE.enum (P.blt (by kernel_rfl) (by boot_fast)) rfl ?_
      walk_at "w"
      refine ⟨_, rfl, fun r l' H' => ∃ i : Nat, r = (enumV W).drop i ∧ i ≤ i0 ∧ l' = [(Str.ofString "waits", V.lst W)] ∧ H' = H, ?_, ?_, ?_, ?_⟩
      · exact ⟨_, ⟨0, rfl, Nat.zero_le _, rfl, rfl⟩, rfl, trivial⟩
      · intros; rfl
      · rintro v r l' H' ⟨i, e, hi, rfl, rfl⟩
        obtain ⟨hv', hr, hlt⟩ := drop_cons e
        rw [enumV_length] at hlt
        rw [enumV, enumFrom_get] at hv'
        cases hw : W[i]? with
        | none => rw [hw] at hv'; cases hv'
        | some w =>
          rw [hw] at hv'; cases hv'
          refine AssignW.tuple (.cons (Or.inl rfl) (.cons (Or.inl rfl) .nil)) rfl P.hd ?_
          walk_at "w"
          refine CallW.len rfl (by omega) ?_
          walk_at "w"
          by_cases hii : i = i0
          · subst hii
            rw [hv] at hw
            cases hw
            refine (badwait_ok P _).call ⟨_, _, rfl, hb, ?_⟩
            walk_at "w"
            refine ite_t rfl ?_
            walk_at "w"
            refine ExecW.raise44 P rfl rfl rfl ?_
            walk_at "w"
            rw [← Nat.zero_add i] at hQ
            exact fun e d he hd hne => hQ.loop he hd hne
          · obtain ⟨w, rfl, hwo⟩ := hg i (by omega) w hw
            refine (is_wait_ok P _).call ⟨w, W.length, rfl, hwo, ?_⟩
            walk_at "w"
            refine ite_f rfl ?_
            walk_at "w"
            exact ⟨_, ⟨i + 1, hr, by omega, rfl, rfl⟩, rfl, trivial⟩
      · rintro l' H' ⟨i, e, hi, rfl, rfl⟩
        have hle := drop_nil e
        rw [enumV_length] at hle
        omega
variable {C : Cx}
def saidV : Option V → V
  | none => .tup [.str (Str.ofString "good"), .bool true]
  | some u => .tup [.str (Str.ofString "bad"), u]
def NoTb (H : Hp) : Prop := ∀ b fl, H b ≠ some (.tb fl)
def S_said : SpecT := fun args Q R H => ∃ (v : V) (r : Option V) (way : Int), args = [v, .int way] ∧ NeedR H v r ∧ NoTb H ∧ Q (saidV r) H
theorem NeedR.plain {H : Hp} {v u : V} {r : Option V} (h : NeedR H v r) (e : r = some u) : u.plain = true := by
  cases h <;> cases e <;> rfl
theorem NeedO.good {H : Hp} {Q R : V → Hp → Prop} (h : Q (.bool true) H) : NeedO H none Q R := h
theorem isi44 {C' : Cx} {C : Cx} {k : Nat} {Q R : V → Hp → Prop} {H : Hp} (P : (K1x C').In C.base) {e d : Addr} {T : Option Addr} {m : Str → Option V} {n : Nat} {cl : Value} {b : Bool} (he : H e = some (.exc 44 (some d) T)) (hd : H d = some (.ns m n)) (hk : kitOne (K1x C') (.ref 44) cl = some b) (h : Q (.bool b) H) : CallW C k (.builtin "isinstance") [.ref e, .con cl] Q R H :=
  CallW.isi_exc P (ok44 _) (by kernel_rfl) (by kernel_rfl) (by kernel_rfl) (by kernel_rfl) he hd hk h
/-- what stands behind a call of need that raised, in the clause -/
theorem NeedX.caught {H : Hp} {u : V} {Hd : Addr → Rho → Hp → Prop} {L : Addr} {ρ : Rho} (nt : NoTb H) (h : ∀ e d T H', H' e = some (.exc 44 (some d) (some T)) → H' d = some (atNs u) → Hp.le H H' → Hd e ρ H') : NeedX H u (fun v H' => Caught Hd L v ρ H') := by
  intro e d T H' e1 e2 e3 e4 e5 e6
  refine ⟨e, 44, some d, some T, rfl, e1, .inr ⟨T, rfl, e2⟩, fun H'' T'' g1 g2 g3 => ?_⟩
  have hde : d ≠ e := fun q => by rw [q, e1] at e3; cases e3
  refine h e d T'' H'' g1 ?_ fun b o hb => ?_
  · rw [g3 d hde (fun fl q => by rw [e3] at q; cases q) (by rw [e3]; simp)]; exact e3
  · have hbn : H b ≠ none := by rw [hb]; simp
    have hbe : b ≠ e := fun q => hbn (q ▸ e4)
    have h1 := e6 b (nt b) hbn
    rw [g3 b hbe (fun fl q => nt b fl (h1 ▸ q)) (h1 ▸ hbn), h1, hb]
set_option maxHeartbeats 4000000 in
theorem said_ok {l : List Env} (P : PCx C (K1x C)) (hC : C.frs = some l) (k : Nat) : FnOK C (k + 6) (.ref 126) S_said := by
  refine FnOK.ofSX (K := K1x C) [Str.ofString "_law_waits", Str.ofString "_law_way"] P hC rfl rfl (by kernel_rfl) ?_ (by kernel_rfl) (by kernel_rfl) ?_
  · intro vals h
    rcases vals with _ | ⟨a, _ | ⟨b, _ | ⟨c, t⟩⟩⟩ <;> simp at h
    rfl
  · rintro args Q R H ⟨v, r, way, rfl, hr, nt, hQ⟩
    refine ⟨rfl, fun L P hfr hL => ?_⟩
    have hpl : ∀ u, r = some u → u.plain = true := fun u e => hr.plain e
    walk_at "w"
    refine ite_w (fun h => ?_) fun h => ?_
    · walk_at "w"
      refine ExecW.try_ret (PQ := fun u H' => RetQ Q (.ret u) (fun _ => none) H') (cX := 44) P hfr hL rfl (fun ρ H => EvalW.global (PCx.glob (v := .ref 44) P (by kernel_rfl)) ⟨rfl, rfl⟩ rfl) (fun u ρ H h => h) ?_
      walk_at "w"
      refine (needX_ok P hfr k).call ⟨v, r, rfl, hr, ?_⟩
      cases r with
      | none =>
        refine NeedO.good ?_
        walk_at "w"
        refine ⟨?_, by simp⟩
        walk_at "w"
        exact OnlyRet.here (RetQ.here hQ)
      | some u =>
        refine NeedX.caught nt fun e d T H' g1 g2 g3 => ⟨44, some d, some T, g1, by kernel_rfl, ?_⟩
        walk_at "w"
        refine AttrW.exc (K := K1x C) (name := Str.ofString "at") (by exact P.X) (ok44 _) g1 g2 (v := u) rfl (by kernel_rfl) (hpl u rfl) ?_
        walk_at "w"
        refine ⟨?_, by simp⟩
        walk_at "w"
        exact OnlyRet.here (RetQ.fz (Fz.drop g3) hQ)
    · walk_at "w"
      refine ExecW.try_ret (PQ := fun u H' => RetQ Q (.ret u) (fun _ => none) H') (cX := 24) P hfr hL rfl (fun ρ H => EvalW.global (PCx.glob (v := .ref 24) P (by kernel_rfl)) ⟨rfl, rfl⟩ rfl) (fun u ρ H h => h) ?_
      walk_at "w"
      refine (needX_ok P hfr k).call ⟨v, r, rfl, hr, ?_⟩
      cases r with
      | none =>
        refine NeedO.good ?_
        walk_at "w"
        refine ⟨?_, by simp⟩
        walk_at "w"
        exact OnlyRet.here (RetQ.here hQ)
      | some u =>
        refine NeedX.caught nt fun e d T H' g1 g2 g3 => ⟨44, some d, some T, g1, by kernel_rfl, ?_⟩
        walk_at "w"
        refine EvalW.callName (x := Str.ofString "isinstance") (PCx.blt P (by kernel_rfl) (by boot_fast)) (Plainly.builtin _) rfl ?_ (hp := rfl)
        walk_at "w"
        refine EvalW.global (PCx.glob (v := .ref 56) P (by kernel_rfl)) ?_ rfl
        walk_at "w"
        refine isi44 (C' := C) (by exact P.X) g1 g2 (b := false) (by kernel_rfl) ?_
        walk_at "w"
        refine ite_f rfl ?_
        walk_at "w"
        refine EvalW.callName (x := Str.ofString "isinstance") (PCx.blt P (by kernel_rfl) (by boot_fast)) (Plainly.builtin _) rfl ?_ (hp := rfl)
        walk_at "w"
        refine EvalW.global (PCx.glob (v := .ref 68) P (by kernel_rfl)) ?_ rfl
        walk_at "w"
        refine isi44 (C' := C) (by exact P.X) g1 g2 (b := false) (by kernel_rfl) ?_
        walk_at "w"
        refine ite_f rfl ?_
        walk_at "w"
        refine EvalW.callName (x := Str.ofString "isinstance") (PCx.blt P (by kernel_rfl) (by boot_fast)) (Plainly.builtin _) rfl ?_ (hp := rfl)
        walk_at "w"
        refine EvalW.global (PCx.blt P (by kernel_rfl) (by boot_fast)) ?_ rfl
        walk_at "w"
        refine isi44 (C' := C) (by exact P.X) g1 g2 (b := true) (by kernel_rfl) ?_
        walk_at "w"
        refine ite_f rfl ?_
        walk_at "w"
        refine ite_f rfl ?_
        walk_at "w"
        refine AttrW.exc (K := K1x C) (name := Str.ofString "at") (by exact P.X) (ok44 _) g1 g2 (v := u) rfl (by kernel_rfl) (hpl u rfl) ?_
        walk_at "w"
        refine ⟨?_, by simp⟩
        walk_at "w"
        exact OnlyRet.here (RetQ.fz (Fz.drop g3) hQ)
section
/- plain data -/
structure Dt (n : Nat) (v : V) : Prop where
  pure : v.pure = true
  lay : v.dat.canLay0 = true
  dep : v.dat.depth ≤ n
theorem Dt.none {n} : Dt n .none := ⟨rfl, rfl, Nat.zero_le _⟩
theorem Dt.int {n} (i : Int) : Dt n (.int i) := ⟨rfl, rfl, Nat.zero_le _⟩
theorem Dt.bool {n} (b : Bool) : Dt n (.bool b) := ⟨rfl, rfl, Nat.zero_le _⟩
theorem Dt.str {n} {s : Str} (h : (PyData.str s).canLay0 = true) : Dt n (.str s) := ⟨rfl, h, Nat.zero_le _⟩
theorem dtL {n : Nat} : ∀ {l : List V}, (∀ x ∈ l, Dt n x) → pureL l = true ∧ PyData.canLayAll0 (datL l) = true ∧ PyData.depthAll (datL l) ≤ n
  | [], _ => ⟨rfl, rfl, Nat.zero_le _⟩
  | v :: l, h => by
    have h1 := h v (.head _)
    obtain ⟨h2, h3, h4⟩ := dtL (l := l) fun x hx => h x (.tail _ hx)
    simp only [pureL, datL, PyData.canLayAll0, PyData.depthAll, h1.pure, h1.lay, h2, h3]
    exact ⟨rfl, rfl, Nat.max_le.mpr ⟨h1.dep, h4⟩⟩
theorem Dt.tup {n : Nat} {l : List V} (h : ∀ x ∈ l, Dt n x) : Dt (n + 1) (.tup l) := by
  obtain ⟨h1, h2, h3⟩ := dtL h
  exact ⟨h1, by simpa only [V.dat, PyData.canLay0] using h2, by simp only [V.dat, PyData.depth]; omega⟩
theorem Dt.lst {n : Nat} {l : List V} (h : ∀ x ∈ l, Dt n x) : Dt (n + 1) (.lst l) := by
  obtain ⟨h1, h2, h3⟩ := dtL h
  exact ⟨h1, by simpa only [V.dat, PyData.canLay0] using h2, by simp only [V.dat, PyData.depth]; omega⟩
theorem Dt.mono {n m : Nat} {v : V} (h : Dt n v) (hm : n ≤ m) : Dt m v := ⟨h.pure, h.lay, Nat.le_trans h.dep hm⟩
theorem Dt.ok {n : Nat} {v : V} (h : Dt n v) (hn : n ≤ 64) : okD v.dat = true := okD_of h.lay (Nat.le_trans h.dep hn)
theorem Dt.see {n : Nat} {v : V} (h : Dt n v) (H : Hp) : Mine.see H v = v := by
  cases v with
  | ref a => cases h.pure
  | _ => rfl
theorem Dt.wv (w : Wt) : Dt 5 (wv w) := ⟨wv_pure w, (wv_lay w).1, (wv_lay w).2⟩
section
variable {C : Cx} {k : Nat} {Q R : V → Hp → Prop} {H : Hp}
theorem CmpW.neSame {n : Nat} {v : V} (h : Dt n v) (hn : n ≤ 64) (hq : Q (.bool false) H) : CmpW C k .NotEq v v Q R H := by
  refine CmpW.ne ?_ ?_ ?_ ?_ ?_ <;> simp only [h.see]
  · exact h.pure
  · exact h.pure
  · exact h.ok hn
  · exact h.ok hn
  · rw [eqv_refl _ h.lay]; exact hq
theorem CmpW.eqD {n : Nat} {v w : V} (h : Dt n v) (h' : Dt n w) (hn : n ≤ 64) (hq : Q (.bool (PyData.eqv v.dat w.dat)) H) : CmpW C k .Eq v w Q R H := by
  refine CmpW.eq ?_ ?_ ?_ ?_ ?_ <;> simp only [h.see, h'.see]
  · exact h.pure
  · exact h'.pure
  · exact h.ok hn
  · exact h'.ok hn
  · exact hq
end

/- what _law_odd makes -/
def pick (l : List V) (i : Int) : V := l.getD i.toNat .none
theorem pick_get {l : List V} {i : Int} (h0 : 0 ≤ i) (h : i < l.length) : l[i.toNat]? = some (pick l i) := by
  have : i.toNat < l.length := by omega
  simp [pick, this]
theorem pick_mem {l : List V} {i : Int} (h0 : 0 ≤ i) (h : i < l.length) : pick l i ∈ l := List.mem_of_getElem? (pick_get h0 h)
def insV (l : List V) (j : Nat) (v : V) : List V := l.take j ++ v :: l.drop j
def sAll : V := .str (Str.ofString "all")
def sAny : V := .str (Str.ofString "any")
def strangeL (s : Int) : List V := [.int s, .int (-1), .bool true, .none, .str (Str.ofString "0"), .int (10 ^ 30)]
def wordsL : List V := [.str (Str.ofString "each"), .str (Str.ofString ""), .str (Str.ofString "All"), .str (Str.ofString "ANY"), .str (Str.ofString "any "), .str (Str.ofString " all"), .str (Str.ofString "none"), .str (Str.ofString "al")]
def odd0 (k m s : Int) (l : List V) : V := .tup [pick [sAll, sAny] (k / 2), .lst (insV l (m / 6 % ((l.length : Int) + 1)).toNat (pick [pick (strangeL s) (m % 6), pick l (m % (l.length : Int))] (k % 2)))]
def odd1 (k m : Int) (l : List V) : V := pick [.tup [sAll, .lst []], .tup [sAny, .lst []], .tup [pick wordsL (m / 6 % 8), .lst l], .tup [pick wordsL (m / 6 % 8), .lst l]] (k - 4)
def odd2 (k : Int) (l : List V) : V := pick [.tup [sAny, .tup l], .lst [sAny, .lst l], .tup [sAny, .lst l, .lst l], .tup [sAny]] (k - 8)
def odd3 (k : Int) (l : List V) : V := pick [.tup [.int 1, .lst l], .tup [sAny, .int 0], sAny, .int 0, .bool true, .tup [], .tup [.none, .lst l]] (k - 12)
def oddV (k m s : Int) (l : List V) : V := if k < 4 then odd0 k m s l else if k < 8 then odd1 k m l else if k < 12 then odd2 k l else odd3 k l

theorem strange_no {s : Int} (hs : s ≤ 40) {v : V} (h : v ∈ strangeL s) : isPlaceV v s = false := by
  simp only [strangeL, List.mem_cons, List.not_mem_nil, or_false] at h
  rcases h with rfl | rfl | rfl | rfl | rfl | rfl <;> simp [isPlaceV]
  omega
theorem badH_odd {m : Int} {v : V} {post : List V} (h : isPlaceV v m = false) : ∀ (pre : List Int) (seen : List Int), (∀ i ∈ pre, isPlaceV (.int i) m = true) → BadH m (pre.map V.int ++ v :: post) seen
  | [], seen, _ => .odd h
  | i :: pre, seen, hp => by
    by_cases q : i ∈ seen
    · exact .twice (hp i (.head _)) q
    · exact .next (hp i (.head _)) q (badH_odd h pre _ fun j hj => hp j (.tail _ hj))
theorem badH_twice {m : Int} : ∀ (l : List Int) (seen : List Int), (∀ i ∈ l, isPlaceV (.int i) m = true) → (¬ l.Nodup ∨ ∃ i ∈ l, i ∈ seen) → BadH m (l.map V.int) seen
  | [], seen, _, h => by
    rcases h with h | ⟨i, h, _⟩
    · exact absurd List.nodup_nil h
    · cases h
  | i :: l, seen, hp, h => by
    by_cases q : i ∈ seen
    · exact .twice (hp i (.head _)) q
    · refine .next (hp i (.head _)) q (badH_twice l _ (fun j hj => hp j (.tail _ hj)) ?_)
      rcases h with h | ⟨j, hj, hs⟩
      · rw [List.nodup_cons] at h
        by_cases w : i ∈ l
        · exact .inr ⟨i, w, .head _⟩
        · exact .inl fun n => h ⟨w, n⟩
      · rcases List.mem_cons.mp hj with rfl | hj
        · exact absurd hs q
        · exact .inr ⟨j, hj, .tail _ hs⟩
theorem ins_dup {l : List Int} {x : Int} (hx : x ∈ l) (j : Nat) : ¬ (l.take j ++ x :: l.drop j).Nodup := by
  intro h
  have h1 : (x :: (l.take j ++ l.drop j)).Nodup := (List.perm_middle.nodup_iff).mp h
  rw [List.take_append_drop, List.nodup_cons] at h1
  exact h1.1 hx
theorem isPlace_of {s x : Nat} (h : x < s) : isPlaceV (.int (x : Int)) s = true := by simp [isPlaceV]; omega
def natV (l : List Nat) : List V := l.map nv
theorem natV_int (l : List Nat) : natV l = (l.map fun (n : Nat) => (n : Int)).map V.int := by
  unfold natV; rw [List.map_map]; rfl
theorem wordsL_no {v : V} (h : v ∈ wordsL) : ∃ w, v = .str w ∧ (w != Str.ofString "all") = true ∧ (w != Str.ofString "any") = true := by
  simp only [wordsL, List.mem_cons, List.not_mem_nil, or_false] at h
  rcases h with rfl | rfl | rfl | rfl | rfl | rfl | rfl | rfl <;> exact ⟨_, rfl, by decide +kernel, by decide +kernel⟩
theorem Dt.nats {n : Nat} (l : List Nat) : ∀ x ∈ natV l, Dt n x := fun x hx => by
  obtain ⟨i, _, rfl⟩ := List.mem_map.mp hx
  exact Dt.int _
theorem Dt.strange {n : Nat} {s : Int} {v : V} (h : v ∈ strangeL s) : Dt n v := by
  simp only [strangeL, List.mem_cons, List.not_mem_nil, or_false] at h
  rcases h with rfl | rfl | rfl | rfl | rfl | rfl
  · exact .int _
  · exact .int _
  · exact .bool _
  · exact .none
  · exact .str (by decide +kernel)
  · exact .int _
theorem Dt.word {n : Nat} {v : V} (h : v ∈ wordsL) : Dt n v := by
  simp only [wordsL, List.mem_cons, List.not_mem_nil, or_false] at h
  rcases h with rfl | rfl | rfl | rfl | rfl | rfl | rfl | rfl <;> exact .str (by decide +kernel)
theorem Dt.all {n : Nat} : Dt n sAll := .str (by decide +kernel)
theorem Dt.any {n : Nat} : Dt n sAny := .str (by decide +kernel)
theorem Dt.ty {v : V} {n : Nat} (h : Dt n v) (H : Hp) : ∃ T, tyOf H v = some T := by
  cases v with
  | ref a => cases h.pure
  | con a => cases h.pure
  | _ => exact ⟨_, rfl⟩
theorem mem_ins {l : List V} {j : Nat} {v x : V} (h : x ∈ insV l j v) : x = v ∨ x ∈ l := by
  unfold insV at h
  rcases List.mem_append.mp h with h | h
  · exact .inr (List.mem_of_mem_take h)
  · rcases List.mem_cons.mp h with h | h
    · exact .inl h
    · exact .inr (List.mem_of_mem_drop h)
theorem len_ins (l : List V) (j : Nat) (v : V) : (insV l j v).length = l.length + 1 := by
  unfold insV
  rw [List.length_append, List.length_cons, List.length_take, List.length_drop]; omega
theorem natV_length (l : List Nat) : (natV l).length = l.length := by simp [natV]

section
variable {H : Hp} {k m : Int} {s : Nat} {l : List Nat}
theorem odd0_bad (hk0 : 0 ≤ k) (hk : k < 4) (hs : s ≤ 40) (hl : l ≠ []) (hz : l.length ≤ 50) (hlt : ∀ x ∈ l, x < s) : BadV H s (odd0 k m s (natV l)) ∧ Dt 4 (odd0 k m s (natV l)) := by
  unfold odd0
  have hlen : 0 < l.length := List.length_pos_iff.mpr hl
  rw [natV_length]
  have hj0 : 0 ≤ m / 6 % ((l.length : Int) + 1) := Int.emod_nonneg _ (by omega)
  have hm0 : 0 ≤ m % (l.length : Int) := Int.emod_nonneg _ (by omega)
  have hm1 : m % (l.length : Int) < l.length := Int.emod_lt_of_pos _ (by omega)
  have hst : pick (strangeL s) (m % 6) ∈ strangeL s := pick_mem (by omega) (by show m % 6 < 6; omega)
  have hpl : pick (natV l) (m % (l.length : Int)) ∈ natV l := pick_mem hm0 (by rw [natV_length]; exact hm1)
  generalize pick (strangeL s) (m % 6) = st at hst
  generalize pick (natV l) (m % (l.length : Int)) = pl at hpl
  generalize (m / 6 % ((l.length : Int) + 1)).toNat = j
  have hw : ∃ w, pick [sAll, sAny] (k / 2) = .str w ∧ (w = Str.ofString "all" ∨ w = Str.ofString "any") := by
    have : k / 2 = 0 ∨ k / 2 = 1 := by omega
    rcases this with e | e <;> rw [e]
    · exact ⟨_, rfl, .inl rfl⟩
    · exact ⟨_, rfl, .inr rfl⟩
  obtain ⟨w, ew, hw⟩ := hw
  have dw : Dt 2 (V.str w) := by
    rcases hw with rfl | rfl
    · exact Dt.all
    · exact Dt.any
  rw [ew]
  have hx : ∃ x, pick [st, pl] (k % 2) = x ∧ Dt 2 x ∧ (isPlaceV x s = false ∨ x ∈ natV l) := by
    have : k % 2 = 0 ∨ k % 2 = 1 := by omega
    rcases this with e | e <;> rw [e]
    · exact ⟨_, rfl, Dt.strange hst, .inl (strange_no (by omega) hst)⟩
    · exact ⟨_, rfl, Dt.nats l _ hpl, .inr hpl⟩
  obtain ⟨x, ex, dx, hx⟩ := hx
  rw [ex]
  have dl : ∀ y ∈ insV (natV l) j x, Dt 2 y := fun y hy => by
    rcases mem_ins hy with rfl | h
    · exact dx
    · exact Dt.nats l _ h
  have hgood : ∀ i ∈ (l.map fun (n : Nat) => (n : Int)), isPlaceV (.int i) s = true := fun i hi => by
    obtain ⟨n, hn, rfl⟩ := List.mem_map.mp hi
    exact isPlace_of (hlt n hn)
  refine ⟨.hands hw ?_ ?_ (fun y hy => (dl y hy).ty H) (dtL dl).1 ((Dt.lst dl).ok (by omega)) ?_, ?_⟩
  · intro q
    have := congrArg List.length q
    rw [len_ins] at this; cases this
  · rw [len_ins, natV_length]; omega
  · rw [natV_int] at hx ⊢
    rcases hx with hx | hx
    · unfold insV
      rw [← List.map_take]
      exact badH_odd hx _ _ fun i hi => hgood i (List.mem_of_mem_take hi)
    · obtain ⟨i, hi, rfl⟩ := List.mem_map.mp hx
      unfold insV
      rw [← List.map_take, ← List.map_drop, ← List.map_cons, ← List.map_append]
      refine badH_twice _ _ ?_ (.inl (ins_dup hi j))
      intro y hy
      rcases List.mem_append.mp hy with h | h
      · exact hgood y (List.mem_of_mem_take h)
      · rcases List.mem_cons.mp h with rfl | h
        · exact hgood _ hi
        · exact hgood y (List.mem_of_mem_drop h)
  · refine Dt.tup fun y hy => ?_
    simp only [List.mem_cons, List.not_mem_nil, or_false] at hy
    rcases hy with rfl | rfl
    · exact dw.mono (by omega)
    · exact Dt.lst dl
theorem pair_dt {n : Nat} {a b : V} (ha : Dt n a) (hb : Dt n b) : Dt (n + 1) (.tup [a, b]) := Dt.tup fun y hy => by
  simp only [List.mem_cons, List.not_mem_nil, or_false] at hy
  rcases hy with rfl | rfl
  · exact ha
  · exact hb
theorem nats_dt {n : Nat} (l : List Nat) : Dt (n + 1) (.lst (natV l)) := Dt.lst (Dt.nats l)
theorem odd1_bad (hk0 : 4 ≤ k) (hk : k < 8) : BadV H s (odd1 k m (natV l)) ∧ Dt 4 (odd1 k m (natV l)) := by
  unfold odd1
  have hm : pick wordsL (m / 6 % 8) ∈ wordsL := pick_mem (by omega) (by show m / 6 % 8 < 8; omega)
  generalize pick wordsL (m / 6 % 8) = w at hm
  obtain ⟨u, rfl, h1, h2⟩ := wordsL_no hm
  have hd := Dt.word (n := 3) hm
  have : k - 4 = 0 ∨ k - 4 = 1 ∨ k - 4 = 2 ∨ k - 4 = 3 := by omega
  rcases this with e | e | e | e <;> rw [e]
  · exact ⟨.empty (.inl rfl), pair_dt Dt.all (Dt.lst (n := 2) fun _ h => by cases h)⟩
  · exact ⟨.empty (.inr rfl), pair_dt Dt.any (Dt.lst (n := 2) fun _ h => by cases h)⟩
  · exact ⟨.word h1 h2, pair_dt hd (nats_dt l)⟩
  · exact ⟨.word h1 h2, pair_dt hd (nats_dt l)⟩
theorem odd2_bad (hk0 : 8 ≤ k) (hk : k < 12) : BadV H s (odd2 k (natV l)) ∧ Dt 4 (odd2 k (natV l)) := by
  unfold odd2
  have : k - 8 = 0 ∨ k - 8 = 1 ∨ k - 8 = 2 ∨ k - 8 = 3 := by omega
  rcases this with e | e | e | e <;> rw [e]
  · exact ⟨.list (T := "tuple") (.inr rfl) rfl (by decide +kernel), pair_dt Dt.any (Dt.tup (Dt.nats (n := 2) l))⟩
  · refine ⟨.kind (T := "list") rfl (by decide +kernel) rfl trivial, Dt.lst fun y hy => ?_⟩
    simp only [List.mem_cons, List.not_mem_nil, or_false] at hy
    rcases hy with rfl | rfl
    · exact Dt.any
    · exact nats_dt l
  · refine ⟨.len (by simp) (by simp), Dt.tup fun y hy => ?_⟩
    simp only [List.mem_cons, List.not_mem_nil, or_false] at hy
    rcases hy with rfl | rfl | rfl
    · exact Dt.any
    · exact nats_dt l
    · exact nats_dt l
  · refine ⟨.len (by simp) (by simp), Dt.tup fun y hy => ?_⟩
    simp only [List.mem_cons, List.not_mem_nil, or_false] at hy
    subst hy; exact Dt.any
theorem odd3_bad (hk0 : 12 ≤ k) (hk : k < 19) : BadV H s (odd3 k (natV l)) ∧ Dt 4 (odd3 k (natV l)) := by
  unfold odd3
  have : k - 12 = 0 ∨ k - 12 = 1 ∨ k - 12 = 2 ∨ k - 12 = 3 ∨ k - 12 = 4 ∨ k - 12 = 5 ∨ k - 12 = 6 := by omega
  rcases this with e | e | e | e | e | e | e <;> rw [e]
  · exact ⟨.first (T := "int") rfl (by decide +kernel), pair_dt (Dt.int _) (nats_dt l)⟩
  · exact ⟨.list (T := "int") (.inr rfl) rfl (by decide +kernel), pair_dt Dt.any (Dt.int _)⟩
  · exact ⟨.kind (T := "str") rfl (by decide +kernel) rfl trivial, Dt.any⟩
  · exact ⟨.kind (T := "int") rfl (by decide +kernel) rfl trivial, Dt.int _⟩
  · exact ⟨.kind (T := "bool") rfl (by decide +kernel) rfl trivial, Dt.bool _⟩
  · exact ⟨.len (by simp) (by simp), Dt.tup (n := 3) fun _ h => by cases h⟩
  · exact ⟨.first (T := "NoneType") rfl (by decide +kernel), pair_dt Dt.none (nats_dt l)⟩
theorem oddV_bad (hk0 : 0 ≤ k) (hk : k < 19) (hs : s ≤ 40) (hl : l ≠ []) (hz : l.length ≤ 50) (hlt : ∀ x ∈ l, x < s) : BadV H s (oddV k m s (natV l)) ∧ Dt 4 (oddV k m s (natV l)) := by
  unfold oddV
  split
  · exact odd0_bad hk0 (by omega) hs hl hz hlt
  · split
    · exact odd1_bad (by omega) (by omega)
    · split
      · exact odd2_bad (by omega) (by omega)
      · exact odd3_bad (by omega) hk
end
end
section
def aroundL (a s : Nat) (m : Int) : List Nat := (List.range (1 + m / 42 % (s : Int)).toNat).map fun (k : Nat) => (((a : Int) + (k : Int)) % (s : Int)).toNat
def atOf (ns : List Int) (s : Nat) : Nat := (cellV ns 2 % (s : Int)).toNat
def spoilL (k m : Int) (a s : Nat) (W : List V) : List V :=
  if m / 7 % 4 = 1 then (W.set a (oddV k m s (natV (aroundL a s m)))).set ((a : Int) + m % ((s : Int) - (a : Int))).toNat (oddV k m s (natV [0])) else W.set a (oddV k m s (natV (aroundL a s m)))
def spoilV (ns : List Int) (s : Nat) (W : List V) : V × V :=
  if cellV ns 1 % 26 < 19 then (.lst (spoilL (cellV ns 1 % 26) (cellV ns 3) (atOf ns s) s W), .int (atOf ns s))
  else if cellV ns 1 % 26 < 22 then (pick [.tup W, .none, .lst []] (cellV ns 1 % 26 - 19), .none)
  else if cellV ns 1 % 26 = 22 then (.lst (List.replicate 41 .none), .none)
  else (.lst W, .str (Str.ofString "good"))
def resV : V → Option V
  | .str _ => none
  | v => some v
def sizeF (c : Int) : Nat := if c / 7 % 4 = 1 then (1 + c / 28 % 40).toNat else (1 + c % 7).toNat
def wallF (ns : List Int) (s : Nat) : List Wt := (List.range s).map fun (k : Nat) => waitByL (mixG 48271 7919 999983 ns (4 + (k : Int) % 40) k) s
def madeW (ns : List Int) : List Wt :=
  if cellV ns 0 / 1120 % 4 = 1 then (wallF ns (sizeF (cellV ns 0))).set (cellV ns 0 / 4480 % (sizeF (cellV ns 0) : Int)).toNat (some (true, backL (sizeF (cellV ns 0)) (cellV ns 0 / 4480))) else wallF ns (sizeF (cellV ns 0))
def madeV (ns : List Int) : V × V := spoilV ns (sizeF (cellV ns 0)) ((madeW ns).map wv)

theorem sizeF_range (c : Int) : 0 < sizeF c ∧ sizeF c ≤ 40 := by unfold sizeF; split <;> omega
theorem WsOk.set {W : List Wt} (h : WsOk W) (i : Nat) (w : Wt) (hw : WOk W.length w) : WsOk (W.set i w) := by
  obtain ⟨h1, h2, h3⟩ := h
  refine ⟨by simpa using h1, by simpa using h2, ?_⟩
  intro x hx
  rw [List.length_set]
  rcases List.mem_or_eq_of_mem_set hx with q | rfl
  · exact h3 x q
  · exact hw
theorem wallF_length (ns : List Int) (s : Nat) : (wallF ns s).length = s := by simp [wallF]
theorem wallF_ok (ns : List Int) (s : Nat) (h0 : 0 < s) (h1 : s ≤ 40) : WsOk (wallF ns s) := by
  refine ⟨by rw [wallF_length]; exact h0, by rw [wallF_length]; exact h1, ?_⟩
  rw [wallF_length]
  intro w hw
  obtain ⟨k, _, rfl⟩ := List.mem_map.mp hw
  exact waitByL_ok _ _ h0
theorem madeW_length (ns : List Int) : (madeW ns).length = sizeF (cellV ns 0) := by
  unfold madeW; split
  · rw [List.length_set, wallF_length]
  · rw [wallF_length]
theorem madeW_ok (ns : List Int) : WsOk (madeW ns) := by
  have ⟨h0, h1⟩ := sizeF_range (cellV ns 0)
  unfold madeW; split
  · exact (wallF_ok ns _ h0 h1).set _ _ (by rw [wallF_length]; exact backL_ok _ _ _ h0 (by omega))
  · exact wallF_ok ns _ h0 h1
theorem aroundL_ok (a s : Nat) (m : Int) (hs : 0 < s) (hs' : s ≤ 40) : aroundL a s m ≠ [] ∧ (aroundL a s m).length ≤ 50 ∧ ∀ x ∈ aroundL a s m, x < s := by
  have h0 : 0 ≤ m / 42 % (s : Int) := Int.emod_nonneg _ (by omega)
  have h1 : m / 42 % (s : Int) < s := Int.emod_lt_of_pos _ (by omega)
  refine ⟨?_, ?_, ?_⟩
  · intro q
    have := congrArg List.length q
    simp [aroundL] at this; omega
  · simp [aroundL]; omega
  · intro x hx
    obtain ⟨k, _, rfl⟩ := List.mem_map.mp hx
    have h2 : 0 ≤ ((a : Int) + (k : Int)) % (s : Int) := Int.emod_nonneg _ (by omega)
    have h3 : ((a : Int) + (k : Int)) % (s : Int) < s := Int.emod_lt_of_pos _ (by omega)
    omega
theorem spoil_need {H : Hp} (ns : List Int) {W : List Wt} (hW : WsOk W) : NeedR H (spoilV ns W.length (W.map wv)).1 (resV (spoilV ns W.length (W.map wv)).2) ∧ Dt 10 (spoilV ns W.length (W.map wv)).1 := by
  obtain ⟨h0, h1, h2⟩ := hW
  have dW : ∀ x ∈ W.map wv, Dt 5 x := fun x hx => by
    obtain ⟨w, _, rfl⟩ := List.mem_map.mp hx
    exact Dt.wv w
  have hk0 : 0 ≤ cellV ns 1 % 26 := by omega
  unfold spoilV
  generalize cellV ns 1 % 26 = k at hk0
  split
  · rename_i hk
    have ha0 : 0 ≤ cellV ns 2 % (W.length : Int) := Int.emod_nonneg _ (by omega)
    have ha1 : cellV ns 2 % (W.length : Int) < W.length := Int.emod_lt_of_pos _ (by omega)
    have ha : atOf ns W.length < W.length := by unfold atOf; omega
    generalize atOf ns W.length = a at ha
    generalize cellV ns 3 = m
    obtain ⟨q1, q2, q3⟩ := aroundL_ok a W.length m h0 h1
    have b1 := oddV_bad (H := H) (m := m) hk0 hk h1 q1 q2 q3
    have b2 := oddV_bad (H := H) (m := m) (l := [0]) hk0 hk h1 (by simp) (by simp) (by simpa using h0)
    have hi0 : 0 ≤ m % ((W.length : Int) - (a : Int)) := Int.emod_nonneg _ (by omega)
    have hi1 : m % ((W.length : Int) - (a : Int)) < (W.length : Int) - (a : Int) := Int.emod_lt_of_pos _ (by omega)
    have hi : a ≤ ((a : Int) + m % ((W.length : Int) - (a : Int))).toNat := by omega
    have hlen : (spoilL k m a W.length (W.map wv)).length = W.length := by unfold spoilL; split <;> simp
    have hgood : ∀ j, j < a → ∀ u, (spoilL k m a W.length (W.map wv))[j]? = some u → GoodV (spoilL k m a W.length (W.map wv)).length u := by
      intro j hj u hu
      have hu' : (W.map wv)[j]? = some u := by
        unfold spoilL at hu
        split at hu
        · rw [List.getElem?_set_ne (by omega), List.getElem?_set_ne (by omega)] at hu; exact hu
        · rw [List.getElem?_set_ne (by omega)] at hu; exact hu
      rw [hlen]
      obtain ⟨w, hw, rfl⟩ := List.mem_map.mp (List.mem_of_getElem? hu')
      exact ⟨w, rfl, h2 w hw⟩
    have hbad : ∃ v, (spoilL k m a W.length (W.map wv))[a]? = some v ∧ BadV H W.length v := by
      unfold spoilL
      split
      · by_cases e : ((a : Int) + m % ((W.length : Int) - (a : Int))).toNat = a
        · rw [e]
          exact ⟨_, List.getElem?_set_self (by simpa using ha), b2.1⟩
        · rw [List.getElem?_set_ne e]
          exact ⟨_, List.getElem?_set_self (by simpa using ha), b1.1⟩
      · exact ⟨_, List.getElem?_set_self (by simpa using ha), b1.1⟩
    obtain ⟨v, hv, hbv⟩ := hbad
    refine ⟨.at (by omega) hv hgood (by rw [hlen]; exact hbv), ?_⟩
    refine (Dt.lst (n := 5) fun x hx => ?_).mono (by omega)
    unfold spoilL at hx
    split at hx
    · rcases List.mem_or_eq_of_mem_set hx with hx | rfl
      · rcases List.mem_or_eq_of_mem_set hx with hx | rfl
        · exact dW x hx
        · exact b1.2.mono (by omega)
      · exact b2.2.mono (by omega)
    · rcases List.mem_or_eq_of_mem_set hx with hx | rfl
      · exact dW x hx
      · exact b1.2.mono (by omega)
  · split
    · have : k - 19 = 0 ∨ k - 19 = 1 ∨ k - 19 = 2 := by omega
      rcases this with e | e | e <;> rw [e]
      · exact ⟨.kind (T := "tuple") rfl (by decide +kernel), (Dt.tup dW).mono (by omega)⟩
      · exact ⟨.kind (T := "NoneType") rfl (by decide +kernel), Dt.none⟩
      · exact ⟨.size (.inl rfl) (by simp), (Dt.lst (n := 2) fun _ h => by cases h).mono (by omega)⟩
    · split
      · refine ⟨.size (.inr (by simp)) (by simp), (Dt.lst (n := 2) fun x h => ?_).mono (by omega)⟩
        rw [List.eq_of_mem_replicate h]; exact Dt.none
      · refine ⟨.good (by simpa using h0) (by simpa using h1) fun v hv => ?_, (Dt.lst dW).mono (by omega)⟩
        obtain ⟨w, hw, rfl⟩ := List.mem_map.mp hv
        exact ⟨w, rfl, by rw [List.length_map]; exact h2 w hw⟩
theorem made_need {H : Hp} (ns : List Int) : NeedR H (madeV ns).1 (resV (madeV ns).2) ∧ Dt 10 (madeV ns).1 := by
  unfold madeV
  rw [← madeW_length]
  exact spoil_need ns (madeW_ok ns)
/-- the second: a place, None, or 'good' -/
theorem made_snd (ns : List Int) : (∃ n : Nat, (madeV ns).2 = .int n) ∨ (madeV ns).2 = .none ∨ (madeV ns).2 = .str (Str.ofString "good") := by
  unfold madeV spoilV
  split
  · exact .inl ⟨_, rfl⟩
  · split
    · exact .inr (.inl rfl)
    · split
      · exact .inr (.inl rfl)
      · exact .inr (.inr rfl)
end
variable {C : Cx}
def S_odd : SpecT := fun args Q R H => ∃ (kd m : Int) (s : Nat) (l : List V), args = [.int kd, .int m, .int s, .lst l] ∧ 0 ≤ kd ∧ kd < 19 ∧ s ≤ 40 ∧ 0 < l.length ∧ l.length ≤ 50 ∧ Q (oddV kd m s l) H
set_option maxHeartbeats 4000000 in
theorem odd_ok (P : PCx C (K1x C)) (k : Nat) : FnOK C (k + 1) (.ref 119) S_odd := by
  refine FnOK.ofS (K := K1x C) [Str.ofString "_law_kind", Str.ofString "_law_more", Str.ofString "_law_size", Str.ofString "_law_others"] P rfl rfl (by kernel_rfl) ?_ (by kernel_rfl) (by kernel_rfl) ?_
  · intro vals h
    rcases vals with _ | ⟨a, _ | ⟨b, _ | ⟨c, _ | ⟨d, _ | ⟨e, t⟩⟩⟩⟩⟩ <;> simp at h
    rfl
  · rintro args Q R H ⟨kd, m, s, l, rfl, hk0, hk, hs, hl0, hl1, hQ⟩
    refine ⟨rfl, fun L P => ?_⟩
    walk_at "w"
    refine EvalW.list_fz ?_
    walk_at "w"
    refine EvalW.neg ?_
    walk_at "w"
    refine ⟨1, rfl, ?_⟩
    walk_at "w"
    refine BinW.pow (by decide) (by decide) (by decide +kernel) ?_
    rw [show (10 : Int) ^ (30 : Int).toNat = 10 ^ 30 from rfl]
    walk_at "w"
    refine ⟨by simp, ?_⟩
    walk_at "w"
    refine SubW.list rfl (by omega) (by omega) (pick_get (l := strangeL s) (by omega) (by show m % 6 < ((6 : Nat) : Int); omega)) ?_
    by_cases h4 : kd < 4
    · rw [oddV, if_pos h4] at hQ
      walk_at "w"
      refine CallW.listCopy rfl (by omega) fun a ha => ?_
      have h1 : (H.set a (.list l)) a = some (.list l) := Hp.set_self ..
      walk_at "w"
      refine ite_t (by simpa using h4) ?_
      walk_at "w"
      refine ⟨_, MethIs.insert h1, Plainly.builtin _, ?_⟩
      walk_at "w"
      refine CallW.len (lview_ref h1) (by omega) ?_
      walk_at "w"
      refine EvalW.list_fz ?_
      walk_at "w"
      refine CallW.len (lview_ref h1) (by omega) ?_
      walk_at "w"
      refine SubW.list (lview_ref h1) (Int.emod_nonneg _ (by omega)) (by have := Int.emod_lt_of_pos m (b := (l.length : Int)) (by omega); omega) (pick_get (Int.emod_nonneg _ (by omega)) (Int.emod_lt_of_pos _ (by omega))) ?_
      walk_at "w"
      refine ⟨by simp, ?_⟩
      walk_at "w"
      refine SubW.list rfl (by omega) (by omega) (pick_get (by omega) (by show kd % 2 < ((2 : Nat) : Int); omega)) ?_
      walk_at "w"
      have hj0 : 0 ≤ m / 6 % ((l.length : Int) + 1) := Int.emod_nonneg _ (by omega)
      have hj1 : m / 6 % ((l.length : Int) + 1) < (l.length : Int) + 1 := Int.emod_lt_of_pos _ (by omega)
      have hj : m / 6 % ((l.length : Int) + 1) = (((m / 6 % ((l.length : Int) + 1)).toNat : Nat) : Int) := (Int.toNat_of_nonneg hj0).symm
      rw [hj]
      refine CallW.insert h1 (by omega) (by omega) ?_
      walk_at "w"
      refine EvalW.list_fz ?_
      walk_at "w"
      refine ⟨by simp, ?_⟩
      walk_at "w"
      refine SubW.list rfl (by omega) (by omega) (pick_get (by omega) (by show kd / 2 < ((2 : Nat) : Int); omega)) ?_
      walk_at "w"
      refine ⟨?_, by simp⟩
      walk_at "w"
      refine RetQ.fz (Fz.of (D := fun b => b = a) (.tup (.cons (.refl _) (.cons (.thaw rfl (Hp.set_self ..) (fz_new.FzRL_refl _)) .nil))) (Hp.le_set' (Hp.le_set ha) ha) (by rintro b rfl; exact ha)) hQ
    · rw [oddV, if_neg h4] at hQ
      walk_at "w"
      refine CallW.listCopyF rfl (by omega) ?_
      walk_at "w"
      refine ite_f (by simpa using h4) ?_
      walk_at "w"
      by_cases h8 : kd < 8
      · rw [if_pos h8] at hQ
        refine ite_t (by simpa using h8) ?_
        walk_at "w"
        refine EvalW.list_fz ?_
        walk_at "w"
        refine ⟨by simp, ?_⟩
        walk_at "w"
        refine SubW.list rfl (by omega) (by omega) (pick_get (l := wordsL) (by omega) (by show m / 6 % 8 < ((8 : Nat) : Int); omega)) ?_
        walk_at "w"
        refine EvalW.list_fz ?_
        walk_at "w"
        refine EvalW.list_fz ?_
        walk_at "w"
        refine ⟨by simp, ?_⟩
        walk_at "w"
        refine ⟨?_, by simp⟩
        walk_at "w"
        refine EvalW.list_fz ?_
        walk_at "w"
        refine ⟨by simp, ?_⟩
        walk_at "w"
        refine ⟨?_, by simp⟩
        walk_at "w"
        refine ⟨?_, by simp⟩
        walk_at "w"
        refine ⟨?_, by simp⟩
        walk_at "w"
        refine ⟨by simp, ?_⟩
        walk_at "w"
        refine SubW.list rfl (by omega) (by omega) (pick_get (by omega) (by show kd - 4 < ((4 : Nat) : Int); omega)) ?_
        walk_at "w"
        exact RetQ.here hQ
      · rw [if_neg h8] at hQ
        refine ite_f (by simpa using h8) ?_
        walk_at "w"
        by_cases h12 : kd < 12
        · rw [if_pos h12] at hQ
          refine ite_t (by simpa using h12) ?_
          walk_at "w"
          refine EvalW.list_fz ?_
          walk_at "w"
          refine CallW.tupleOf rfl (by omega) ?_
          walk_at "w"
          refine ⟨?_, by simp⟩
          walk_at "w"
          refine EvalW.list_fz ?_
          walk_at "w"
          refine ⟨by simp, ?_⟩
          walk_at "w"
          refine ⟨?_, by simp⟩
          walk_at "w"
          refine ⟨?_, by simp⟩
          walk_at "w"
          refine ⟨by simp, ?_⟩
          walk_at "w"
          refine SubW.list rfl (by omega) (by omega) (pick_get (by omega) (by show kd - 8 < ((4 : Nat) : Int); omega)) ?_
          walk_at "w"
          exact RetQ.here hQ
        · rw [if_neg h12] at hQ
          refine ite_f (by simpa using h12) ?_
          walk_at "w"
          refine EvalW.list_fz ?_
          walk_at "w"
          refine ⟨?_, by simp⟩
          walk_at "w"
          refine ⟨?_, by simp⟩
          walk_at "w"
          refine ⟨?_, by simp⟩
          walk_at "w"
          refine ⟨?_, by simp⟩
          walk_at "w"
          refine ⟨by simp, ?_⟩
          walk_at "w"
          refine SubW.list rfl (by omega) (by omega) (pick_get (by omega) (by show kd - 12 < ((7 : Nat) : Int); omega)) ?_
          walk_at "w"
          exact RetQ.here hQ
variable {C : Cx}
def S_spoiled : SpecT := fun args Q R H => ∃ (ns : List Int) (a : Addr) (l : List V) (s : Nat), args = [.lst (ns.map .int), .ref a] ∧ ns.length ≤ 100 ∧ H a = some (.list l) ∧ l.length = s ∧ 0 < s ∧ s ≤ 40 ∧ Q (.tup [(spoilV ns s l).1, (spoilV ns s l).2]) (H.del a)
theorem Hp.del_le {H H' : Hp} {a : Addr} (h : ∀ b o, b ≠ a → H b = some o → H' b = some o) : Hp.le (H.del a) H' := fun b o e => by
  unfold Hp.del at e
  split at e
  · cases e
  · exact h b o (by assumption) e
theorem Hp.del_self (H : Hp) (a : Addr) : (H.del a) a = none := by simp [Hp.del]
set_option maxHeartbeats 4000000 in
theorem spoiled_ok (P : PCx C (K1x C)) (k : Nat) : FnOK C (k + 2) (.ref 131) S_spoiled := by
  refine FnOK.ofS (K := K1x C) [Str.ofString "_law_script", Str.ofString "_law_waits"] P rfl rfl (by kernel_rfl) ?_ (by kernel_rfl) (by kernel_rfl) ?_
  · intro vals h
    rcases vals with _ | ⟨a, _ | ⟨b, _ | ⟨c, t⟩⟩⟩ <;> simp at h
    rfl
  · rintro args Q R H ⟨ns, a, l, s, rfl, hn, ha, hls, hs0, hs1, hQ⟩
    refine ⟨rfl, fun L P => ?_⟩
    walk_at "w"
    refine CallW.len (lview_ref ha) (by omega) ?_
    rw [hls]
    walk_at "w"
    refine (cell_ok P _).call ⟨ns, 1, rfl, by omega, hn, ?_⟩
    walk_at "w"
    refine (cell_ok P _).call ⟨ns, 2, rfl, by omega, hn, ?_⟩
    walk_at "w"
    refine (cell_ok P _).call ⟨ns, 3, rfl, by omega, hn, ?_⟩
    have hk0 : 0 ≤ cellV ns 1 % 26 := by omega
    have hk1 : cellV ns 1 % 26 < 26 := by omega
    have ha0 : 0 ≤ cellV ns 2 % (s : Int) := Int.emod_nonneg _ (by omega)
    have ha1 : cellV ns 2 % (s : Int) < s := Int.emod_lt_of_pos _ (by omega)
    have hat : cellV ns 2 % (s : Int) = ((atOf ns s : Nat) : Int) := (Int.toNat_of_nonneg ha0).symm
    rw [hat] at ha1 ⊢
    unfold spoilV at hQ
    generalize atOf ns s = at0 at hat ha1 hQ
    generalize cellV ns 1 % 26 = kd at hk0 hk1 hQ
    generalize cellV ns 3 = m at hQ
    walk_at "w"
    by_cases h19 : kd < 19
    · rw [if_pos h19] at hQ
      refine ite_t (by simpa using h19) ?_
      have hr0 : 0 ≤ m / 42 % (s : Int) := Int.emod_nonneg _ (by omega)
      have hr1 : m / 42 % (s : Int) < s := Int.emod_lt_of_pos _ (by omega)
      walk_at "w"
      refine EvalW.compP (gN fun (k : Nat) => some (nv (((at0 : Int) + (k : Int)) % (s : Int)).toNat)) rfl P.hd rfl ?_
      refine IterE.range (P.blt (by kernel_rfl) (by boot_fast)) rfl ?_
      walk_at "w"
      refine ⟨_, rfl, by omega, by omega, ?_⟩
      refine ⟨by rw [ints_length]; omega, fun _ _ => trivial, ?_, ?_⟩
      · intro v hv H' hle
        rw [rangeV_nv] at hv
        obtain ⟨x, hx, rfl⟩ := List.mem_map.mp hv
        refine PureStep.map rfl fun L' => ?_
        simp only [nv]
        walk_at "w"
        refine ⟨rfl, ?_⟩
        rw [gN_nv]
        show some (V.int _) = some (V.int _)
        rw [Int.toNat_of_nonneg (Int.emod_nonneg _ (by omega))]
      rw [rangeV_nv, fm_gN, fm_map]
      rw [show (List.range (1 + m / 42 % (s : Int)).toNat).map (fun (k : Nat) => nv (((at0 : Int) + (k : Int)) % (s : Int)).toNat) = natV (aroundL at0 s m) by unfold aroundL natV; rw [List.map_map]; rfl]
      obtain ⟨q1, q2, q3⟩ := aroundL_ok at0 s m hs0 hs1
      walk_at "w"
      refine (odd_ok P _).call ⟨kd, m, s, _, rfl, hk0, h19, hs1, by rw [natV_length]; exact List.length_pos_iff.mpr q1, by rw [natV_length]; exact q2, ?_⟩
      walk_at "w"
      refine SetW.list ha (by omega) (by omega) (by omega) ?_
      have hset : (H.set a (.list (l.set (at0 : Int).toNat (oddV kd m s (natV (aroundL at0 s m)))))) a = some (.list (l.set at0 (oddV kd m s (natV (aroundL at0 s m))))) := by rw [Hp.set_self]; simp
      walk_at "w"
      generalize hl1 : l.set at0 (oddV kd m s (natV (aroundL at0 s m))) = l1 at hset
      have hl1s : l1.length = s := by rw [← hl1, List.length_set, hls]
      generalize hH1 : H.set a (.list (l.set (at0 : Int).toNat (oddV kd m s (natV (aroundL at0 s m))))) = H1 at hset
      have hle1 : Hp.le (H.del a) H1 := Hp.del_le fun b o nb e => by rw [← hH1, Hp.set_ne nb]; exact e
      refine ite_w (fun h => ?_) fun h => ?_
      · have h : m / 7 % 4 = 1 := by simpa using h
        have hi0 : 0 ≤ m % ((s : Int) - (at0 : Int)) := Int.emod_nonneg _ (by omega)
        have hi1 : m % ((s : Int) - (at0 : Int)) < (s : Int) - (at0 : Int) := Int.emod_lt_of_pos _ (by omega)
        walk_at "w"
        refine EvalW.list_fz ?_
        walk_at "w"
        refine ⟨by simp, ?_⟩
        walk_at "w"
        refine (odd_ok P _).call ⟨kd, m, s, _, rfl, hk0, h19, hs1, by simp, by simp, ?_⟩
        walk_at "w"
        refine SetW.list hset (by omega) (by omega) (by omega) ?_
        walk_at "w"
        refine ⟨?_, by simp⟩
        walk_at "w"
        refine RetQ.fz (Fz.of (D := fun b => b = a) (.tup (.cons (.thaw rfl (Hp.set_self ..) (fz_new.FzRL_refl _)) (.cons (.refl _) .nil))) (H' := H.del a) ?_ (by rintro b rfl; exact Hp.del_self ..)) ?_
        · exact Hp.del_le fun b o nb e => by rw [Hp.set_ne nb, ← hH1, Hp.set_ne nb]; exact e
        · unfold spoilL at hQ
          rw [if_pos h, hl1] at hQ
          exact hQ
      · have h : ¬ m / 7 % 4 = 1 := by simpa using h
        walk_at "w"
        refine ⟨?_, by simp⟩
        walk_at "w"
        refine RetQ.fz (Fz.of (D := fun b => b = a) (.tup (.cons (.thaw rfl hset (fz_new.FzRL_refl _)) (.cons (.refl _) .nil))) (H' := H.del a) hle1 (by rintro b rfl; exact Hp.del_self ..)) ?_
        unfold spoilL at hQ
        rw [if_neg h, hl1] at hQ
        exact hQ
    · rw [if_neg h19] at hQ
      refine ite_f (by simpa using h19) ?_
      have hleD : Hp.le (H.del a) H := Hp.del_le fun b o nb e => e
      walk_at "w"
      by_cases h22 : kd < 22
      · rw [if_pos h22] at hQ
        refine ite_t (by simpa using h22) ?_
        walk_at "w"
        refine EvalW.list_fz ?_
        walk_at "w"
        refine CallW.tupleOf (lview_ref ha) (by omega) ?_
        walk_at "w"
        refine EvalW.list_fz ?_
        walk_at "w"
        refine ⟨by simp, ?_⟩
        walk_at "w"
        refine ⟨by simp, ?_⟩
        walk_at "w"
        refine SubW.list rfl (by omega) (by omega) (pick_get (by omega) (by show kd - 19 < ((3 : Nat) : Int); omega)) ?_
        walk_at "w"
        refine ⟨?_, by simp⟩
        walk_at "w"
        exact RetQ.fz (Fz.drop hleD) hQ
      · rw [if_neg h22] at hQ
        refine ite_f (by simpa using h22) ?_
        walk_at "w"
        by_cases hk22 : kd = 22
        · rw [if_pos hk22] at hQ
          refine ite_t (by simpa using hk22) ?_
          walk_at "w"
          refine ⟨41, rfl, by omega, by omega, fun b hb => ?_⟩
          walk_at "w"
          refine ⟨?_, by simp⟩
          walk_at "w"
          refine RetQ.fz (Fz.of (D := fun c => c = b) (.tup (.cons (.thaw rfl (Hp.set_self ..) (fz_new.FzRL_refl _)) (.cons (.refl _) .nil))) (H' := H.del a) ?_ ?_) hQ
          · exact Hp.del_le fun c o nc e => by rw [Hp.set_ne (fun q => by rw [q, hb] at e; cases e)]; exact e
          · rintro c rfl
            unfold Hp.del; split
            · rfl
            · exact hb
        · rw [if_neg hk22] at hQ
          refine ite_f (by simpa using hk22) ?_
          walk_at "w"
          refine ⟨?_, by simp⟩
          walk_at "w"
          exact RetQ.fz (Fz.of (D := fun b => b = a) (.tup (.cons (.thaw rfl ha (fz_new.FzRL_refl _)) (.cons (.refl _) .nil))) (H' := H.del a) hleD (by rintro b rfl; exact Hp.del_self ..)) hQ
variable {C : Cx}
def S_made : SpecT := fun args Q R H => ∃ ns : List Int, args = [.lst (ns.map .int)] ∧ ns.length ≤ 100 ∧ Q (.tup [(madeV ns).1, (madeV ns).2]) H
set_option maxHeartbeats 4000000 in
theorem made_ok (P : PCx C (K1x C)) (k : Nat) : FnOK C (k + 3) (.ref 136) S_made := by
  refine FnOK.ofS (K := K1x C) [Str.ofString "_law_script"] P rfl rfl (by kernel_rfl) ?_ (by kernel_rfl) (by kernel_rfl) ?_
  · intro vals h
    rcases vals with _ | ⟨a, _ | ⟨b, t⟩⟩ <;> simp at h
    rfl
  · rintro args Q R H ⟨ns, rfl, hn, hQ⟩
    refine ⟨rfl, fun L P => ?_⟩
    walk_at "w"
    refine (cell_ok P _).call ⟨ns, 0, rfl, by omega, hn, ?_⟩
    have ⟨hs0, hs1⟩ := sizeF_range (cellV ns 0)
    unfold madeV madeW at hQ
    generalize hcell : cellV ns 0 = cell at hQ hs0 hs1
    refine Cont.next (ExecsW.cons ?_)
    walk_at "v"
    walk_at "v"
    walk_at "v"
    walk_at "v"
    walk_at "v"
    walk_at "v"
    walk_at "v"
    walk_at "v"
    refine Cont.next (ExecsW.seq (fun l H' => H' = H ∧ l = [(Str.ofString "_law_script", V.lst (ns.map .int)), (Str.ofString "_law_cell", V.int cell), (Str.ofString "_law_size", V.int (sizeF cell))]) ?_ ?_)
    · walk_at "w"
      unfold sizeF
      refine ite_w (fun h => ?_) fun h => ?_
      · have h : cell / 7 % 4 = 1 := by simpa using h
        rw [if_pos h]
        walk_at "w"
        refine ⟨_, ⟨rfl, rfl⟩, rfl, rfl, ?_, trivial⟩
        show some (V.int _) = some (V.int _)
        rw [Int.toNat_of_nonneg (by omega)]
      · have h : ¬ cell / 7 % 4 = 1 := by simpa using h
        rw [if_neg h]
        walk_at "w"
        refine ⟨_, ⟨rfl, rfl⟩, rfl, rfl, ?_, trivial⟩
        show some (V.int _) = some (V.int _)
        rw [Int.toNat_of_nonneg (by omega)]
    rintro l H0 ⟨rfl, rfl⟩
    generalize sizeF cell = s at hs0 hs1 hQ
    walk_at "w"
    refine ExecW.assign_compO (gN fun (k : Nat) => some (wv (waitByL (mixG 48271 7919 999983 ns (4 + (k : Int) % 40) k) s))) rfl rfl P.hd rfl ?_
    refine IterE.range (P.blt (by kernel_rfl) (by boot_fast)) rfl ?_
    walk_at "w"
    refine ⟨_, rfl, by omega, by omega, ?_⟩
    simp only [Int.toNat_natCast]
    refine ⟨by rw [ints_length]; omega, fun _ _ => trivial, ?_, fun a ha => ?_⟩
    · intro v hv H' hle
      rw [rangeV_nv] at hv
      obtain ⟨x, hx, rfl⟩ := List.mem_map.mp hv
      refine PureStep.map rfl fun L' => ?_
      simp only [nv]
      walk_at "w"
      refine (mixed_ok P _).call ⟨ns, _, _, rfl, by omega, hn, ?_⟩
      walk_at "w"
      refine (wait_by_ok P _).call ⟨_, s, rfl, (mixG_range _ _ _ (by decide) ..).1, hs0, hs1, ?_⟩
      exact ⟨rfl, by rw [gN_nv]⟩
    rw [rangeV_nv, fm_gN, fm_map]
    rw [show (List.range s).map (fun (k : Nat) => wv (waitByL (mixG 48271 7919 999983 ns (4 + (k : Int) % 40) k) s)) = (wallF ns s).map wv by unfold wallF; rw [List.map_map]; rfl]
    have hWl : (wallF ns s).length = s := wallF_length ns s
    generalize wallF ns s = W at hWl hQ
    walk_at "w"
    refine ite_w (fun h => ?_) fun h => ?_
    · have h : cell / 1120 % 4 = 1 := by simpa using h
      rw [if_pos h] at hQ
      walk_at "w"
      refine EvalW.compP (gN fun (k : Nat) => some (nv (((s : Int) + cell / 4480 - (k : Int)) % (s : Int)).toNat)) rfl P.hd rfl ?_
      refine IterE.range (P.blt (by kernel_rfl) (by boot_fast)) rfl ?_
      walk_at "w"
      refine ⟨_, rfl, by omega, by omega, ?_⟩
      simp only [Int.toNat_natCast]
      refine ⟨by rw [ints_length]; omega, fun _ _ => trivial, ?_, ?_⟩
      · intro v hv H' hle
        rw [rangeV_nv] at hv
        obtain ⟨x, hx, rfl⟩ := List.mem_map.mp hv
        refine PureStep.map rfl fun L' => ?_
        simp only [nv]
        walk_at "w"
        refine ⟨rfl, ?_⟩
        rw [gN_nv]
        show some (V.int _) = some (V.int _)
        rw [Int.toNat_of_nonneg (Int.emod_nonneg _ (by omega))]
      rw [rangeV_nv, fm_gN, fm_map]
      rw [show (List.range s).map (fun (k : Nat) => nv (((s : Int) + cell / 4480 - (k : Int)) % (s : Int)).toNat) = (backL s (cell / 4480)).map nv by unfold backL; rw [List.map_map]; rfl]
      walk_at "w"
      refine ⟨?_, by simp⟩
      walk_at "w"
      have hr1 := Int.emod_nonneg (cell / 4480) (b := (s : Int)) (by omega)
      have hr2 := Int.emod_lt_of_pos (cell / 4480) (b := (s : Int)) (by omega)
      refine SetW.list (Hp.set_self ..) hr1 (by simp only [List.length_map]; omega) (by simp only [List.length_map]; omega) ?_
      walk_at "w"
      refine (spoiled_ok P _).call ⟨ns, a, _, s, rfl, hn, Hp.set_self .., by simpa using hWl, hs0, hs1, ?_⟩
      walk_at "w"
      refine RetQ.fz (Fz.drop (H' := H0) fun b o e => ?_) ?_
      · have hb : b ≠ a := fun q => by rw [q, ha] at e; cases e
        simp [Hp.del, Hp.set, hb, e]
      · rw [List.map_set] at hQ
        exact hQ
    · have h : ¬ cell / 1120 % 4 = 1 := by simpa using h
      rw [if_neg h] at hQ
      walk_at "w"
      refine (spoiled_ok P _).call ⟨ns, a, _, s, rfl, hn, Hp.set_self .., by simpa using hWl, hs0, hs1, ?_⟩
      walk_at "w"
      refine RetQ.fz (Fz.drop (H' := H0) fun b o e => ?_) hQ
      have hb : b ≠ a := fun q => by rw [q, ha] at e; cases e
      simp [Hp.del, Hp.set, hb, e]
variable {C : Cx}
theorem CmpW.eqSame {k : Nat} {Q R : V → Hp → Prop} {H : Hp} {n : Nat} {v a b : V} (h : Dt n v) (ha : a = v) (hb : b = v) (hn : n ≤ 64) (hq : Q (.bool true) H) : CmpW C k .Eq a b Q R H := by
  subst ha
  subst hb
  refine CmpW.eqD h h hn ?_
  rw [eqv_refl _ h.lay]; exact hq
def S_law1 : SpecT := fun args Q R H => ∃ ns : List Int, args = [.lst (ns.map .int)] ∧ ns.length ≤ 100 ∧ NoTb H ∧ Q (.bool true) H
set_option maxHeartbeats 4000000 in
theorem law_ok {l : List Env} (P : PCx C (K1x C)) (hC : C.frs = some l) (k : Nat) : FnOK C (k + 7) (.ref 143) S_law1 := by
  refine FnOK.ofSX (K := K1x C) [Str.ofString "_law_script"] P hC rfl rfl (by kernel_rfl) ?_ (by kernel_rfl) (by kernel_rfl) ?_
  · intro vals h
    rcases vals with _ | ⟨a, _ | ⟨b, t⟩⟩ <;> simp at h
    rfl
  · rintro args Q R H ⟨ns, rfl, hn, nt, hQ⟩
    refine ⟨rfl, fun L P hfr hL => ?_⟩
    walk_at "w"
    refine (made_ok P _).call ⟨ns, rfl, hn, ?_⟩
    have ⟨hneed, hdt⟩ := made_need (H := H) ns
    have hsnd := made_snd ns
    walk_at "w"
    refine SubW.tup (by omega) (by omega) rfl ?_
    walk_at "w"
    refine (cell_ok P _).call ⟨ns, 1, rfl, by omega, hn, ?_⟩
    walk_at "w"
    refine (said_ok P hfr k).call ⟨_, _, _, rfl, hneed, nt, ?_⟩
    walk_at "w"
    refine SubW.tup (by omega) (by omega) rfl ?_
    walk_at "w"
    refine (made_ok P _).call ⟨ns, rfl, hn, ?_⟩
    walk_at "w"
    refine SubW.tup (by omega) (by omega) rfl ?_
    refine CmpW.neSame hdt (by omega) ?_
    generalize (madeV ns).1 = mv at hdt hneed
    generalize (madeV ns).2 = me at hsnd hneed
    walk_at "w"
    refine ite_f rfl ?_
    walk_at "w"
    refine SubW.tup (by omega) (by omega) rfl ?_
    walk_at "w"
    have dgood : Dt 3 (V.str (Str.ofString "good")) := .str (by decide +kernel)
    have dbad : Dt 3 (V.str (Str.ofString "bad")) := .str (by decide +kernel)
    have dpair : ∀ {a b : V}, Dt 3 a → Dt 3 b → Dt 4 (.tup [a, b]) := fun ha hb => pair_dt ha hb
    rcases hsnd with ⟨n, rfl⟩ | rfl | rfl
    · refine CmpW.eqD (Dt.int _) dgood (by omega) ?_
      walk_at "w"
      refine ite_f rfl ?_
      walk_at "w"
      refine SubW.tup (by omega) (by omega) rfl ?_
      walk_at "w"
      refine ite_f (by decide +kernel) ?_
      walk_at "w"
      refine SubW.tup (by omega) (by omega) rfl ?_
      walk_at "w"
      refine CmpW.isNone trivial ?_
      walk_at "w"
      refine ite_f rfl ?_
      walk_at "w"
      refine ite_f rfl ?_
      walk_at "w"
      refine SubW.tup (by omega) (by omega) rfl ?_
      walk_at "w"
      refine CallW.isi_int rfl ?_
      walk_at "w"
      refine ite_t rfl ?_
      walk_at "w"
      refine SubW.tup (by omega) (by omega) rfl ?_
      walk_at "w"
      refine CallW.isi_bool rfl ?_
      walk_at "w"
      refine ite_t rfl ?_
      walk_at "w"
      refine SubW.tup (by omega) (by omega) rfl ?_
      walk_at "w"
      refine SubW.tup (by omega) (by omega) rfl ?_
      walk_at "w"
      refine RetQ.here ?_
      rw [show ((n : Int) == (n : Int)) = true from by simp]
      exact hQ
    · refine CmpW.eqD Dt.none dgood (by omega) ?_
      walk_at "w"
      refine ite_f rfl ?_
      walk_at "w"
      refine SubW.tup (by omega) (by omega) rfl ?_
      walk_at "w"
      refine ite_f (by decide +kernel) ?_
      walk_at "w"
      refine SubW.tup (by omega) (by omega) rfl ?_
      walk_at "w"
      refine CmpW.isNone trivial ?_
      walk_at "w"
      refine ite_t rfl ?_
      refine ite_t rfl ?_
      walk_at "w"
      refine ⟨?_, by simp⟩
      refine CmpW.eqSame (dpair dbad Dt.none) rfl rfl (by omega) ?_
      walk_at "w"
      exact RetQ.here hQ
    · refine CmpW.eqD dgood dgood (by omega) ?_
      rw [eqv_refl _ dgood.lay]
      walk_at "w"
      refine ite_t rfl ?_
      walk_at "w"
      refine ⟨?_, by simp⟩
      refine CmpW.eqSame (dpair dgood (Dt.bool true)) rfl rfl (by omega) ?_
      walk_at "w"
      refine ite_t rfl ?_
      walk_at "w"
      refine SubW.tup (by omega) (by omega) rfl ?_
      walk_at "w"
      refine CallW.isi_bool rfl ?_
      walk_at "w"
      refine ite_t rfl ?_
      walk_at "w"
      refine EvalW.global (P.globInt (i := 40) (t := 266) (by kernel_rfl)) ?_ rfl
      walk_at "w"
      exact RetQ.here hQ
end Mine
open PySem PySem.W PyProof.Rows
set_option Elab.async false
set_option maxRecDepth 100000
set_option maxHeartbeats 8000000
theorem PySem.Challenge.cw_uf060008_01_holds : PySem.Challenge.rw_uf060008_01.Holds := by
  refine holds_law Mine.said01 fun said => ?_
  refine holds_open (q := Mine.q01) (loose := Mine.loose01) (Xt := fun s => recOk (RowW.records PySem.Challenge.rw_uf060008_01.row.toRowW) s) (XP := fun _ _ => True) (Yf := Hook.obs Mine.hook01) (Ya := Hook.val Mine.hook01) (YP := Hook.says Mine.hook01) (N := 6000) Mine.left01 (Hook.of _) (Hook.keeps _) (fun _ _ => trivial) (fun _ _ _ _ _ => trivial) (by rfl) (by rfl) (by rfl) (fun s e => recFacts_of e) (by rfl) said Mine.ok01 ⟨rfl, rfl, rfl, rfl, rfl, by decide +kernel⟩ ?hw ?hc
  case hw => w_witness2
  intro w s₀ s₁ mg mb G Y fa o pm cd doc dV kV ho hd hcd hD hmg hg args vals as hpre hlay hrd hwl hlo
  have KX : (Mine.K01 w.params).In s₁.heap := Y
  refine Ground.open G ?_
  intro T B D TE TW
  wrow_args hpre hlay hrd hwl hlo
  rename_i ns _ _ _ _ _ _ _ a vals _ hL _ _ _ hI _ hlen _
  refine enter_call ?_
  have hfa := mg_of KX T.g (n := Str.ofString "law") (v := .ref 143) (by kernel_rfl)
  have efa : Value.ref fa = .ref 143 := Option.some.inj (hmg.symm.trans hfa)
  rw [efa]
  obtain ⟨_, ⟨oc, _, _, hoc, _⟩, _⟩ := T.nodigits
  have P : Mine.PCx ⟨PySem.Challenge.rw_uf060008_01.row.prog, w, s₁.heap, s₁.os, true, ⟨oc, hoc⟩, some []⟩ (Mine.K01 w.params) := ⟨KX, T.nolimit, ⟨mg, mb, T.g, T.b, T.builtins⟩, rfl⟩
  exact Mine.law_glue ⟨oc, hoc⟩ hg hL hI (Mine.law_ok (C := ⟨PySem.Challenge.rw_uf060008_01.row.prog, w, s₁.heap, s₁.os, true, ⟨oc, hoc⟩, some []⟩) P rfl 0) (by decide) ⟨ns, rfl, by omega, (fun _ fl e => (by cases e)), rfl⟩ (fun _ => rfl) (by with_unfolding_all rfl)

